/- A part of a proof over the abstract machine. No conditions. -/
import Derived.Test.YtmhbdpgflomihaaGreatP7
import Derived.Test.YtmhbdpgflomihaaGreatL6
namespace Go.Proofs.YtmhbdpgflomihaaGreat
open Go Go.Ab Wm NumPlain
set_option linter.unusedSimpArgs false
set_option linter.unnecessarySimpa false
set_option linter.unusedVariables false
set_option maxRecDepth 10000
set_option maxHeartbeats 4000000
structure Rl (c : Cl) (m : Md) : Prop where
  id : c.id = m.id
  n : c.n = m.n
  seq : c.seq = m.seq
  busy : c.busy = m.busy
  row : c.row = m.op.row
  w : c.w = m.wait
  g : c.g = m.gap
  told : c.told = m.last
  perm : c.cached.Perm m.cached
  srt : Srt c.cached
  good : Good m.cached
  op : m.busy = true → c.op = some (u8 1 :: encOpB m.op) ∧ OpIs m.op ∧ OpNum m.op
  opl : (ls c.op).length ≤ 1048576
  rowm : m.op.row ∈ rows9
  wb : 0 ≤ m.wait ∧ m.wait ≤ 4
  gb : 0 ≤ m.gap ∧ m.gap ≤ 4
  seqb : m.busy = true → 0 < m.seq
  seq0 : 0 ≤ m.seq
  idb : 0 ≤ m.id ∧ m.id < 4
  nb : m.n = 1 ∨ m.n = 3 ∨ m.n = 5
  last : 0 ≤ m.last
  ans : AnsIs c.ans
  ansr : (m.last = 0 ∧ m.ans = zAns) ∨ (0 < m.last ∧ c.ans = norm m.ans ∧ m.ans.rows = none)
theorem Rl.good2 {c : Cl} {m : Md} (r : Rl c m) : Good c.cached := r.good.perm r.perm.symm
theorem Rl.len {c : Cl} {m : Md} (r : Rl c m) : c.cached.length ≤ 9 ∧ m.cached.length ≤ 9 := ⟨r.good2.len, r.good.len⟩
theorem Rl.ok {c : Cl} {m : Md} (r : Rl c m) (hs : m.seq < 1000) : ClOk c :=
  ⟨by rw [r.id]; exact r.idb, by rw [r.n]; exact r.nb, by rw [r.seq]; exact ⟨r.seq0, hs⟩, by rw [r.row]; have := rows9_len r.rowm; omega, r.opl, by rw [r.w]; exact r.wb, by rw [r.g]; exact r.gb, by have := r.len.1; omega⟩
theorem Rl.find {c : Cl} {m : Md} (r : Rl c m) : c.cached.find? (fun t => hasName t.span c.row) = m.cached.find? (fun t => hasName t.span m.op.row) := by rw [r.row]; exact find_perm r.perm r.good2 _
theorem Rl.whom {c : Cl} {m : Md} (r : Rl c m) : whom c = mG m := by
  have hf := r.find
  unfold Proofs.YtmhbdpgflomihaaGreat.whom mG atT
  rw [hf]
  cases h : m.cached.find? (fun t => hasName t.span m.op.row) with
  | none => rfl
  | some t =>
    have := (r.good.ok t (List.mem_of_find?_eq_some h)).2.1
    simp only
    rw [if_pos this]
theorem asks_rel {c : Cl} {m : Md} (r : Rl c m) (hb : m.busy = true) {h0 h : H} {v : AV} (a : Asks h0 h c true v) : ∃ s, v = .one s ∧ W K 12 [.one s, .one (ii (mG m)), .one (ii m.n), .one (ii m.id), .one (ii m.seq), .agg (mW m)] h = some (.ret (.one (.bool true)) h) := by
  have hw := r.whom
  have hf := r.find
  obtain ⟨o1, o2, o3⟩ := r.op hb
  have hrow := rows9_len r.rowm
  have hl := encOp_len o2
  rw [← r.n, ← r.id, ← r.seq]
  have hid : 0 ≤ c.id ∧ c.id < 4 := by rw [r.id]; exact r.idb
  have hn : c.n = 1 ∨ c.n = 3 ∨ c.n = 5 := by rw [r.n]; exact r.nb
  have hcl := mW_len m
  cases h : m.cached.find? (fun t => hasName t.span m.op.row) with
  | none =>
    have hW : mW m = [ii 7, ii 0, .str [], .str [], .bool false, .bool false, .str [], ii 0, .nilslc, .flt 0, .nilslc, ii 0, .str [], .str [], ii 0, .str m.op.row, ii 0, ii 0, .nilslc] := by
      unfold mW atT; rw [h]; rfl
    refine lawAsks_c a hn hid (B := u8 7 :: textB m.op.row) ?_ (by simp [textB, be_length]; omega) hcl (by rw [hW]; simp [pureL, pureS]) ?_ (fun h => by rw [hW]; exact refLoc_c m.op.row (by omega) h) hw.symm
    · unfold what; rw [hf, h]; simp only; rw [r.row]
    · rw [hW]
      intro a ha
      simp only [List.mem_cons, List.not_mem_nil, or_false] at ha
      rcases ha with rfl | rfl | rfl | rfl | rfl | rfl | rfl | rfl | rfl | rfl | rfl | rfl | rfl | rfl | rfl | rfl | rfl | rfl | rfl <;> simp
  | some t =>
    have hg := (r.good.ok t (List.mem_of_find?_eq_some h)).2.1
    have hW : mW m = [ii 1, ii m.op.kind, .str m.op.row, .str m.op.hi, .bool m.op.cond.has, .bool m.op.cond.want, .str m.op.cond.col, ii m.op.cond.v.kind, bs m.op.cond.v.b, .flt m.op.cond.v.n, sl 6 encChange m.op.l, ii m.op.most, .str [], .str [], ii 0, .str [], ii 0, ii 0, .nilslc] := by
      unfold mW atT; rw [h]; simp only; rw [if_pos hg]
    refine lawAsks_c a hn hid (B := u8 1 :: encOpB m.op) ?_ (by simp only [List.length_cons]; omega) hcl (by rw [hW]; simp [pureL, pureS]) ?_ (fun h => by rw [hW]; exact refOp_c m.op.kind m.op.row m.op.hi m.op.cond.has m.op.cond.want m.op.cond.col m.op.cond.v.kind m.op.cond.v.b m.op.cond.v.n m.op.l m.op.most o2 o3 h) hw.symm
    · unfold what; rw [hf, h]; exact o1
    · rw [hW]
      intro a ha
      simp only [List.mem_cons, List.not_mem_nil, or_false] at ha
      rcases ha with rfl | rfl | rfl | rfl | rfl | rfl | rfl | rfl | rfl | rfl | rfl | rfl | rfl | rfl | rfl | rfl | rfl | rfl | rfl <;> first | exact bs_plain _ | exact sl_plain _ | simp
theorem tick_rel {c : Cl} {m : Md} (r : Rl c m) : Rl (tickC c).1 (tickM m).1 ∧ (tickC c).2 = (tickM m).2 ∧ ((tickM m).2 = true → (tickM m).1.busy = true) ∧ (tickM m).1.seq = m.seq ∧ (tickM m).1.id = m.id ∧ (tickM m).1.n = m.n := by
  by_cases hb : m.busy = true
  · have hc : c.busy = true := by rw [r.busy]; exact hb
    unfold tickC tickM
    rw [if_pos hb, if_pos hc]
    have wb := r.wb
    have gb := r.gb
    by_cases hw : 1 ≤ m.wait - 1
    · rw [if_pos hw, if_pos (by rw [r.w]; exact hw)]
      exact ⟨⟨r.id, r.n, r.seq, r.busy, r.row, by simp only [r.w], r.g, r.told, r.perm, r.srt, r.good, r.op, r.opl, r.rowm, by simp only; omega, r.gb, r.seqb, r.seq0, r.idb, r.nb, r.last, r.ans, r.ansr⟩, rfl, (fun h => by cases h), rfl, rfl, rfl⟩
    · rw [if_neg hw, if_neg (by rw [r.w]; exact hw)]
      simp only [r.g]
      generalize hg : (if (if 1 < 2 * m.gap then 2 * m.gap else 1) < 4 then if 1 < 2 * m.gap then 2 * m.gap else 1 else 4) = g'
      have hgb : 0 ≤ g' ∧ g' ≤ 4 := by rw [← hg]; split <;> split <;> omega
      exact ⟨⟨r.id, r.n, r.seq, r.busy, r.row, rfl, rfl, r.told, r.perm, r.srt, r.good, r.op, r.opl, r.rowm, hgb, hgb, r.seqb, r.seq0, r.idb, r.nb, r.last, r.ans, r.ansr⟩, by trivial, fun _ => hb, by trivial, by trivial, by trivial⟩
  · have hc : ¬ c.busy = true := by rw [r.busy]; exact hb
    unfold tickC tickM
    rw [if_neg hb, if_neg hc]
    exact ⟨r, rfl, (fun h => by cases h), rfl, rfl, rfl⟩
theorem submit_rel {c : Cl} {m : Md} (r : Rl c m) (o : Wm.Op) (ho : OpIs o) (hn : OpNum o) (hr : o.row ∈ rows9) : Rl { c with seq := c.seq + 1, busy := true, row := o.row, op := some (u8 1 :: encOpB o), w := 0, g := 0 } { m with seq := m.seq + 1, busy := true, op := o, gap := 0, wait := 0 } := by
  have hl := encOp_len ho
  exact ⟨r.id, r.n, by rw [r.seq], rfl, rfl, rfl, rfl, r.told, r.perm, r.srt, r.good, fun _ => ⟨rfl, ho, hn⟩, by simp only [ls_some, List.length_cons]; omega, hr, by simp, by simp, fun _ => by have := r.seq0; simp only; omega, by have := r.seq0; simp only; omega, r.idb, r.nb, r.last, r.ans, r.ansr⟩
def CanCache (m : Md) (g : Int) (a : Answer) : Prop := g = 0 → a.code = 0 → hasName a.span m.op.row = true → spanOk a.span = true ∧ 0 < a.gen ∧ 0 < a.group ∧ a.span.lo ∈ rows9
theorem mG_zero {c : Cl} {m : Md} (r : Rl c m) : mG m = 0 ↔ m.cached.find? (fun t => hasName t.span m.op.row) = none := by
  unfold mG atT
  cases h : m.cached.find? (fun t => hasName t.span m.op.row) with
  | none => simp
  | some t =>
    have := r.good.ok t (List.mem_of_find?_eq_some h)
    simp only
    rw [if_pos this.2.1]
    constructor
    · intro h; omega
    · intro h; cases h
theorem find_idx {l : List Tablet} {p : Tablet → Bool} : l.find? p = none ↔ l.findIdx? p = none := by rw [List.find?_eq_none, List.findIdx?_eq_none_iff]; simp
theorem on_rel {c : Cl} {m : Md} (r : Rl c m) (g : Int) (a : Answer) (ha : AnsIs a) (hf : CanCache m g a) :
    Rl (onC c 2 g (100 + c.id) c.id c.seq (some (norm a))).1 (if m.busy then (onM m g a).1 else m) ∧ (onC c 2 g (100 + c.id) c.id c.seq (some (norm a))).2 = (m.busy && (onM m g a).2) ∧
    ((m.busy && (onM m g a).2) = true → (if m.busy then (onM m g a).1 else m).busy = true) := by
  by_cases hb : m.busy = true
  rotate_left
  · have e : onC c 2 g (100 + c.id) c.id c.seq (some (norm a)) = (c, false) := by simp [onC, r.busy, hb]
    have hb2 : m.busy = false := by simpa using hb
    rw [e, if_neg hb, hb2]
    exact ⟨r, rfl, (fun h => by cases h)⟩
  · have e : onC c 2 g (100 + c.id) c.id c.seq (some (norm a)) = took c g (norm a) := by simp [onC, r.busy, hb, tookO]
    rw [e]
    rw [if_pos hb, show (m.busy && (onM m g a).2) = (onM m g a).2 by rw [hb]; rfl]
    have hz := mG_zero r
    unfold onM
    cases hfi : m.cached.find? (fun t => hasName t.span m.op.row) with
    | none =>
      have hm0 : mG m = 0 := hz.2 hfi
      have hfc : c.cached.findIdx? (fun t => hasName t.span c.row) = none := find_idx.1 (by rw [r.find]; exact hfi)
      rw [if_pos hm0]
      simp only [took, hfc]
      by_cases hg : g = 0
      · rw [if_pos hg]
        unfold located
        rw [r.row]
        have e1 : (norm a).code = a.code := rfl
        have e2 : (norm a).span = a.span := rfl
        have e3 : (norm a).group = a.group := rfl
        have e4 : (norm a).gen = a.gen := rfl
        rw [e1, e2, e3, e4]
        by_cases hc : a.code = 0 ∧ hasName a.span m.op.row = true
        · rw [if_pos hc, if_pos ⟨hg, hc⟩]
          have hft := hf hg hc.1 hc.2
          have hme : (fun t : Tablet => !meetOk t.span a.span) = fun t => !meet7 t.span a.span := by funext t; rw [meet_eq]
          rw [hme]
          have gd := good_add r.good (t := ⟨a.span, a.group, a.gen⟩) hft
          have hpp : ((c.cached.filter fun t => !meet7 t.span a.span) ++ [(⟨a.span, a.group, a.gen⟩ : Tablet)]).Perm ((m.cached.filter fun t => !meet7 t.span a.span) ++ [⟨a.span, a.group, a.gen⟩]) := (r.perm.filter _).append_right _
          have gd2 := gd.perm hpp.symm
          have hsrt : Srt (c.cached.filter fun t => !meet7 t.span a.span) := r.srt.filter _
          have hlo : ∀ t ∈ (c.cached.filter fun t => !meet7 t.span a.span), t.span.lo ≠ a.span.lo := fun t ht he => by
            have h1 := (List.mem_filter.1 ht).2
            rw [meet_lo (r.good2.ok t (List.mem_filter.1 ht).1).1 hft.1 he] at h1
            cases h1
          refine ⟨⟨r.id, r.n, r.seq, r.busy, rfl, rfl, rfl, r.told, (isort_perm _ _).trans hpp, srt_isort hsrt hlo (isort_srt hsrt), gd, r.op, r.opl, r.rowm, by simp, by simp, r.seqb, r.seq0, r.idb, r.nb, r.last, r.ans, r.ansr⟩, rfl, fun _ => hb⟩
        · rw [if_neg hc, if_neg (fun h => hc h.2)]
          exact ⟨r, rfl, (fun h => by cases h)⟩
      · rw [if_neg hg, if_neg (fun h => hg h.1)]
        exact ⟨r, rfl, (fun h => by cases h)⟩
    | some t =>
      have hm0 : ¬ mG m = 0 := fun h => by rw [hz.1 h] at hfi; cases hfi
      rw [if_neg hm0]
      have ht := List.mem_of_find?_eq_some hfi
      have htn := List.find?_some hfi
      have htg := r.good.ok t ht
      have hat : atT m.cached m.op.row = t := by unfold atT; rw [hfi]
      have hmg : mG m = t.group := by unfold mG; rw [hat, if_pos htg.2.1]
      have hfc := r.find
      rw [hfi] at hfc
      cases hfx : c.cached.findIdx? (fun t => hasName t.span c.row) with
      | none => rw [find_idx.2 hfx] at hfc; cases hfc
      | some i =>
        obtain ⟨hil, hit⟩ : ∃ h : i < c.cached.length, c.cached[i] = t := by
          rw [List.findIdx?_eq_some_iff_getElem] at hfx
          obtain ⟨h1, h2, _⟩ := hfx
          refine ⟨h1, r.good2.one (List.getElem_mem h1) (r.perm.mem_iff.2 ht) (r := m.op.row) ?_ htn⟩
          rw [← r.row]; exact h2
        simp only [took, hfx, List.getElem?_eq_getElem hil, hit, Option.map_some, Option.getD_some]
        rw [hmg, hat]
        by_cases hg : g = t.group
        · rw [if_pos hg, if_pos hg]
          unfold answered
          have e1 : (norm a).code = a.code := rfl
          rw [e1]
          by_cases k1 : a.code = 27 ∨ a.code = 12
          · have k2 : ¬ (a.code = 26 ∨ a.code = 4) := by omega
            rw [if_pos k1, if_neg k2, if_pos k1]
            exact ⟨r, rfl, (fun h => by cases h)⟩
          · rw [if_neg k1]
            by_cases k2 : a.code = 26 ∨ a.code = 4
            · rw [if_pos k2, if_pos k2]
              have hsp : c.cached = c.cached.take i ++ t :: c.cached.drop (i + 1) := by rw [← hit]; exact split_at hil
              have g2 := r.good2
              rw [hsp] at g2
              have hfl := filter_one g2
              rw [← hsp] at hfl
              have her : c.cached.eraseIdx i = c.cached.take i ++ c.cached.drop (i + 1) := List.eraseIdx_eq_take_drop_succ ..
              refine ⟨⟨r.id, r.n, r.seq, r.busy, r.row, rfl, rfl, r.told, ?_, ?_, good_filter r.good _, r.op, r.opl, r.rowm, by simp, by simp, r.seqb, r.seq0, r.idb, r.nb, r.last, r.ans, r.ansr⟩, rfl, fun _ => hb⟩
              · simp only; rw [her, ← hfl]; exact r.perm.filter _
              · simp only; rw [her, ← hfl]; exact r.srt.filter _
            · rw [if_neg k2, if_neg k2, if_neg k1]
              exact ⟨⟨r.id, r.n, r.seq, rfl, r.row, r.w, r.g, r.seq, r.perm, r.srt, r.good, (fun h => by cases h), r.opl, r.rowm, r.wb, r.gb, (fun h => by cases h), r.seq0, r.idb, r.nb, r.seq0, norm_is ha, .inr ⟨r.seqb hb, rfl, ha.rows⟩⟩, rfl, (fun h => by cases h)⟩
        · rw [if_neg hg, if_neg hg]
          exact ⟨r, rfl, (fun h => by cases h)⟩
end Go.Proofs.YtmhbdpgflomihaaGreat
