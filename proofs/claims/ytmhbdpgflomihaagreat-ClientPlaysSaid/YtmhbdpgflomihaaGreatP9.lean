/- A part of a proof over the abstract machine. No conditions. -/
import Derived.Test.YtmhbdpgflomihaaGreatP8
namespace Go.Proofs.YtmhbdpgflomihaaGreat
open Go Go.Ab Wm NumPlain
set_option linter.unusedSimpArgs false
set_option linter.unnecessarySimpa false
set_option linter.unusedVariables false
set_option maxRecDepth 10000
set_option maxHeartbeats 4000000
structure Bt (h : H) (p q : Nat) (c : Cl) (m : Md) : Prop where
  cl : ClAt h p c
  md : MdAt h q m
  ne : p ≠ q
  cq : clQ h p ≠ some q
  mq : mdQ h q ≠ some p
  cm : ∀ b, clQ h p = some b → mdQ h q ≠ some b
theorem MdAt.qlt {h : H} {q : Nat} {m : Md} (a : MdAt h q m) {b : Nat} (hb : mdQ h q = some b) : b < h.next := by
  obtain ⟨_, s, hf, hs, _⟩ := a
  rw [mdQ_at hf] at hb; exact hs.lt hb
theorem ClAt.qlt {h : H} {q : Nat} {m : Cl} (a : ClAt h q m) {b : Nat} (hb : clQ h q = some b) : b < h.next := by
  obtain ⟨_, s, hf, hs, _⟩ := a
  rw [clQ_at hf] at hb; exact hs.lt hb
theorem Bt.mdq {h h' : H} {p q : Nat} {c : Cl} {m : Md} (b : Bt h p q c m) (e : Held h h' p) : h'.f q = h.f q := e.2.1 q b.md.1 b.ne.symm b.cq
theorem Bt.cl_step {h h' : H} {p q : Nat} {c c' : Cl} {m : Md} (b : Bt h p q c m) (a : ClAt h' p c') (e : Held h h' p) : Bt h' p q c' m := by
  have hq := b.mdq e
  have hm : mdQ h' q = mdQ h q := by simp only [mdQ, hq]
  obtain ⟨h1, s, hf, hs, ho⟩ := id b.md
  refine ⟨a, ⟨Nat.lt_of_lt_of_le h1 e.1, s, by rw [hq]; exact hf, hs.keep e.1 fun x hx => e.2.1 x (hs.lt hx) (fun ex => b.mq (by rw [mdQ_at hf, hx, ex])) (fun ex => b.cm x ex (by rw [mdQ_at hf, hx])), ho⟩, b.ne, fun ex => ?_, by rw [hm]; exact b.mq, fun x hx => ?_⟩
  · rcases e.2.2 q ex with h | h
    · exact b.cq h
    · omega
  · rw [hm]
    rcases e.2.2 x hx with h | h
    · exact b.cm x h
    · intro ex; have := b.md.qlt ex; omega
theorem Bt.md_step {h h' : H} {p q : Nat} {c : Cl} {m m' : Md} (b : Bt h p q c m) (a : MdAt h' q m') (e : HeldM h h' q) : Bt h' p q c m' := by
  have hq : h'.f p = h.f p := e.2.1 p b.cl.1 b.ne b.mq
  have hm : clQ h' p = clQ h p := by simp only [clQ, hq]
  obtain ⟨h1, s, hf, hs, ho⟩ := id b.cl
  refine ⟨⟨Nat.lt_of_lt_of_le h1 e.1, s, by rw [hq]; exact hf, hs.keep e.1 fun x hx => e.2.1 x (hs.lt hx) (fun ex => b.cq (by rw [clQ_at hf, hx, ex])) (b.cm x (by rw [clQ_at hf, hx])), ho⟩, a, b.ne, by rw [hm]; exact b.cq, fun ex => ?_, fun x hx => ?_⟩
  · rcases e.2.2 p ex with h | h
    · exact b.mq h
    · omega
  · rw [hm] at hx
    intro ex
    rcases e.2.2 x ex with h | h
    · exact b.cm x hx h
    · have := b.cl.qlt hx; omega
theorem Bt.keep {h h' : H} {p q : Nat} {c : Cl} {m : Md} (b : Bt h p q c m) (hn : h.next ≤ h'.next) (hf : ∀ x, x < h.next → h'.f x = h.f x) : Bt h' p q c m :=
  b.cl_step (b.cl.keep hn hf) ⟨hn, fun x hx _ _ => hf x hx, fun x hx => .inl (by rw [clQ, hf p b.cl.1] at hx; exact hx)⟩
theorem Bt.new {h : H} {p q : Nat} {c : Cl} {m : Md} (b : Bt h p q c m) (k : Blk) : Bt (h.new k) p q c m := b.keep (by simp) fun x hx => by rw [new_at, if_neg (by omega)]
theorem Asks.keep {h0 h h' : H} {c : Cl} {sends : Bool} {v : AV} (a : Asks h0 h c sends v) (hn : h.next ≤ h'.next) (hf : ∀ b, h0.next ≤ b → b < h.next → h'.f b = h.f b) : Asks h0 h' c sends v := by
  obtain ⟨s, e, g, o⟩ := a
  refine ⟨s, e, ?_, o⟩
  cases sends
  · exact g
  · simp only [if_true] at g ⊢
    exact g.keep hn fun b hb => hf b (o b hb) (owns_lt g.1 hb)
theorem Asks.keepM {h0 h h' : H} {c : Cl} {sends : Bool} {v : AV} {q : Nat} (a : Asks h0 h c sends v) (e : HeldM h h' q) (hq : q < h0.next) (hm : ∀ b, mdQ h q = some b → b < h0.next) : Asks h0 h' c sends v :=
  a.keep e.1 fun b h1 h2 => e.2.1 b h2 (by omega) (fun ex => by have := hm b ex; omega)
structure KDr where
  kind : Int
  a : Int
  b : Int
  group : Int
  code : Int
  o : KO
def encDr (d : KDr) : List AS := [ii d.kind, ii d.a, ii d.b, ii d.group, ii d.code, ii d.o.kind, ii d.o.row, ii d.o.hi, ii d.o.most, ii d.o.col, .bool d.o.has, .bool d.o.want, .bool d.o.v.text, ii d.o.v.n, .flt d.o.v.x, bs d.o.v.b, sl 7 encKC d.o.l]
theorem len_dr (d : KDr) : (encDr d).length = 17 := rfl
structure DrOk (d : KDr) : Prop where
  kind : I64 d.kind
  a : I64 d.a
  b : I64 d.b
  group : I64 d.group
  code : I64 d.code
  o : KOok d.o
  num : OpNum (kOp d.o)
theorem kOp_row (o : KO) : (kOp o).row ∈ rows9 := by
  unfold kOp
  split
  · exact keepRow_mem _
  split
  · simp only
    split
    · simp [rows9]
    · exact keepRow_mem _
  · exact keepRow_mem _
theorem ansOf_is {m : Md} (hr : m.op.row ∈ rows9) (xa xb xg xc : Int) : AnsIs (ansOf m.op.row xa xb xg xc) := by
  have hl := rows9_len hr
  have ba := m20_bounds xa
  have l1 := rows9_len (keepRow_mem xa)
  have l2 := rows9_len (keepRow_mem xb)
  have hz : lenB (none : Option BL) = 0 := rfl
  refine ⟨?_, by unfold ansOf; split <;> (try split) <;> rfl⟩
  unfold ansOf
  split
  · simp [ansOk0, inTo, spanOk, hz]
  split
  · simp [ansOk0, inTo, spanOk, hz]; omega
  · have hsp : spanOk ⟨if Op.bytesLess m.op.row (keepRow xa) then [] else keepRow xa, if Op.bytesLess m.op.row (keepRow xb) then keepRow xb else []⟩ = true := by
      unfold spanOk
      simp only [Bool.and_eq_true, decide_eq_true_eq, Bool.or_eq_true, beq_iff_eq]
      refine ⟨⟨by split <;> first | omega | simp, by split <;> first | omega | simp⟩, ?_⟩
      cases hb : Op.bytesLess m.op.row (keepRow xb)
      · exact .inl (by simp)
      · right
        simp only [if_true]
        cases ha : Op.bytesLess m.op.row (keepRow xa)
        · simp only [Bool.false_eq_true, if_false]
          exact blt_nlt ha hb
        · simp only [if_true]
          unfold blt
          cases hk : keepRow xb with
          | nil => rw [hk] at hb; simp at hb
          | cons a l => simp
    simp only [ansOk0, hsp, hz]
    simp [inTo]; omega
theorem ansOf_fits {m : Md} (hr : m.op.row ∈ rows9) (xa xb xg xc : Int) : CanCache m 0 (ansOf m.op.row xa xb xg xc) := by
  intro _ hc hh
  have hok := (ansOf_is hr xa xb xg xc).ok
  have hsp : spanOk (ansOf m.op.row xa xb xg xc).span = true := by
    simp only [ansOk0, Bool.and_eq_true] at hok
    exact hok.2.2.1
  have ba := m20_bounds xa
  refine ⟨hsp, ?_⟩
  unfold ansOf at hc hh ⊢
  split at hc
  · cases hc
  rename_i h4
  rw [if_neg h4] at hh ⊢
  split at hh
  · rename_i h3
    simp only [hasName, Bool.and_eq_true, Bool.not_eq_true'] at hh
    exfalso
    have h1 := hh.1
    have : ∀ r : BL, blt r (r ++ [126]) = true := by
      intro r
      induction r with
      | nil => rfl
      | cons a r ih => simp only [blt, List.cons_append, Op.bytesLess, beq_self_eq_true, Bool.true_and, Bool.or_eq_true]; exact .inr ih
    rw [this] at h1; cases h1
  · rename_i h3
    rw [if_neg h3]
    refine ⟨by simp only; omega, by simp only; have := Int.emod_nonneg (m20 xg) (show (3 : Int) ≠ 0 by decide); omega, ?_⟩
    simp only
    split
    · simp [rows9]
    · exact keepRow_mem _
theorem same_c {h : H} {q : Nat} {m : Md} {s : AS} (hf : h.f q = some ⟨0, [30], true, mdC m s⟩) (hs : Sl h 4 encTablet s m.cached) {c : Cl} (r : Rl c m) {o : Option (List Tablet)} (ho : ls o = c.cached) : W K 26 [.one (sl 4 encTablet o), .one s] h = some (.ret (.one (.bool true)) h) := by
  obtain ⟨om, hom, hv, _⟩ := view_sl len_tablet pure_tablet plain_tablet hs 62
  have hl := r.len
  refine (same_g o om (by rw [ho, hom]; exact r.perm.length_eq) (by rw [ho, hom]; exact fun t ht => r.perm.mem_iff.1 ht) (by rw [ho]; exact r.srt) (by rw [ho]; omega)).view hp ?_
  have e1 : viewS h 64 (sl 4 encTablet o) = some (sl 4 encTablet o) := viewS_pure (by simp) (sl_plain o).1 (sl_plain o).2
  by_cases hp2 : pureS false s = true
  · have : s = sl 4 encTablet om := by
      rcases hs with ⟨rfl, e⟩ | ⟨b, v, z, rfl, _⟩
      · simp only [viewS] at hv
        exact (Option.some.inj hv)
      · simp [pureS] at hp2
    rw [this]
    unfold viewA
    rw [if_pos (by simp [pureV])]
  · unfold viewA
    rw [if_neg (by simp [pureV, hp2])]
    simp only [List.mapM_cons, List.mapM_nil, viewV, hv, e1, Option.bind_eq_bind, Option.bind_some, Option.pure_def]
end Go.Proofs.YtmhbdpgflomihaaGreat
