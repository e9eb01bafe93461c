/- A part of a proof over the abstract machine. No conditions. -/
import Derived.Test.YtgdonnfchhdflaaNumC2
import Derived.Test.YtgdonnfchhdflaaAb3
/- chapter 1: lists -/
namespace Go.Proofs.Ytgdonnfchhdflaa
open Go Go.Ab NumPlain
set_option linter.unusedSimpArgs false
set_option linter.unnecessarySimpa false
set_option linter.unusedVariables false
set_option maxRecDepth 10000
set_option maxHeartbeats 1000000

/-- a list of floats, read -/
def SeesF (h : H) (s : AS) (bs : List Nat) : Prop := Sees h 1 s (bs.map .flt)
section
variable {h : H} {s : AS} {bs : List Nat}
theorem sf_len (hs : SeesF h s bs) (hh : H) : lenA s (some (.slice 23)) hh = some (.val (.one (.int .i64 bs.length)) hh) := lenA_sees hh 23 hs (by decide) (by simp)
theorem sf_index (hs : SeesF h s bs) {i : Nat} (hi : i < bs.length) : indexA Try.prog 39 s i = some (atS 1 s i) := sees_index (u := 23) Try.underlying39 Try.size23 hs (by decide) (by simp) hi
theorem sf_read (hs : SeesF h s bs) {i : Nat} (hi : i < bs.length) : readC h (atS 1 s i) 1 = some [.flt bs[i]] := by
  have := sees_read hs (by decide) (n := bs.length) (by simp) hi
  rw [this, Nat.mul_one]
  have h2 : ((bs.map AS.flt).drop i).take 1 = [.flt bs[i]] := by
    rw [← List.map_drop, List.drop_eq_getElem_cons hi]; rfl
  rw [h2]
theorem sf_size (hs : SeesF h s bs) : sliceSize Try.prog 39 s = some 1 := by
  unfold sliceSize
  have : ∀ t, s ≠ .str t := by rintro t rfl; exact hs
  cases s <;> simp_all
theorem sf_cut (hs : SeesF h s bs) {l u : Nat} (h1 : l ≤ u) (h2 : u ≤ bs.length) : SeesF h (cutS 1 s l u) ((bs.drop l).take (u - l)) := by
  have := sees_cut hs (by decide) (n := bs.length) (by simp) h1 h2
  rw [Nat.mul_one, Nat.mul_one, ← List.map_drop, ← List.map_take] at this
  exact this
end

def totalFrom (acc : Nat) (l : List Nat) : Nat := l.foldl sumB acc
def totalN : List Nat → Nat
  | [] => 0
  | b :: l => totalFrom (canB b) l
theorem total_c (h : H) (s : AS) (bs : List Nat) (hs : SeesF h s bs) (hlen : bs.length < 9223372036854775807) : W K 22 [.one s] h = some (.ret (.one (.flt (totalN bs))) h) := by
  have hl := sf_len hs
  have hz := sf_size hs
  cases bs with
  | nil =>
    refine W_does hp rfl rfl rfl Try.func22 rfl (by simp [Try.f22]) ?_
    simp only [Try.f22, List.length_cons, List.length_nil, List.replicate, List.cons_append, List.nil_append, Nat.reduceAdd, Nat.reduceSub]
    repeat' (first
      | (rw [doesO_cons]; simp [hl, totalN])
      | (rw [doesO_nil']; refine hQ' _ _ _ ?_; clear hQ' Q'; simp only [])
      | refine does_seq hp ?_
      | (refine does_gen hp ?_; intro Q' hQ')
      | refine does_block hp ?_
      | (refine does_ret hp ?_; simp [hl, totalN])
      | (refine does_skip hp ?_; simp [hl, totalN])
      | (refine does_exit hp ?_; simp [hl, totalN])
      | (refine does_cond' hp ?_; simp [hl, totalN]; done)
      | (refine does_cond' hp ?_; simp [hl, totalN]; refine fork (fun hcnd => ?_) (fun hcnd => ?_) <;> (try simp at hcnd))
      | (refine does_cond' hp ?_; simp [hl, totalN]))
  | cons b l =>
    have h0 : 0 < (b :: l).length := by simp
    have hi := sf_index hs h0
    have hr := sf_read hs h0
    simp only [List.getElem_cons_zero] at hr
    have hcut := sf_cut hs (l := 1) (u := (b :: l).length) (by simp) (Nat.le_refl _)
    have hsl : sliceA h 1 s (some (.one (.int .i64 1))) none none = some (cutS 1 s 1 (b :: l).length) := sees_slice hs (by decide) (n := (b :: l).length) (by simp) rfl rfl (by simp) (Nat.le_refl _)
    have hrest : ((b :: l).drop 1).take ((b :: l).length - 1) = l := by simp
    rw [hrest] at hcut
    generalize cutS 1 s 1 (b :: l).length = s' at hcut hsl
    have hl' := sf_len hcut
    have hne : ((l.length : Int) + 1 == 0) = false := by simp; omega
    refine W_does hp rfl rfl rfl Try.func22 rfl (by simp [Try.f22]) ?_
    simp only [Try.f22, List.length_cons, List.length_nil, List.replicate, List.cons_append, List.nil_append, Nat.reduceAdd, Nat.reduceSub]
    repeat' (first
      | (rw [doesO_cons]; simp [hl, hne, hi, hr, canon_c, hz, hsl, hl'])
      | (rw [doesO_nil']; refine hQ' _ _ _ ?_; clear hQ' Q'; simp only [])
      | refine does_seq hp ?_
      | (refine does_gen hp ?_; intro Q' hQ')
      | refine does_block hp ?_
      | (refine does_ret hp ?_; simp [hl, hne, hi, hr, canon_c, hz, hsl, hl'])
      | (refine does_skip hp ?_; simp [hl, hne, hi, hr, canon_c, hz, hsl, hl'])
      | (refine does_exit hp ?_; simp [hl, hne, hi, hr, canon_c, hz, hsl, hl'])
      | (refine does_cond' hp ?_; simp [hl, hne, hi, hr, canon_c, hz, hsl, hl']; done)
      | (refine does_cond' hp ?_; simp [hl, hne, hi, hr, canon_c, hz, hsl, hl']; refine fork (fun hcnd => ?_) (fun hcnd => ?_) <;> (try simp at hcnd))
      | (refine does_cond' hp ?_; simp [hl, hne, hi, hr, canon_c, hz, hsl, hl']))
    refine does_loop hp (fun k fr h' => h' = h ∧ fr.length = 25 ∧ ∃ i, i ≤ l.length ∧ k = l.length - i ∧ Fr.get fr 3 = .one (.flt (totalFrom (canB b) (l.take i))) ∧ Fr.get fr 14 = .one s' ∧ Fr.get fr 15 = .one (.int .i64 l.length) ∧ Fr.get fr 16 = .one (.int .i64 i)) ?_ l.length _ _ ⟨rfl, rfl, 0, by omega, rfl, rfl, rfl, rfl, rfl⟩
    rintro n fr h' ⟨rfl, hfl, i, hil, rfl, g3, g14, g15, g16⟩
    by_cases hlt : i < l.length
    · have q1 := sf_index hcut hlt
      have q2 := sf_read hcut hlt
      have hw : IntKind.i64.wrap ((i : Int) + 1) = ((i + 1 : Nat) : Int) := by rw [wrap_i (by omega) (by simp at hlen; omega)]; rfl
      have hstep : sumB (totalFrom (canB b) (l.take i)) l[i] = totalFrom (canB b) (l.take (i + 1)) := by
        unfold totalFrom
        rw [List.take_succ_eq_append_getElem hlt, List.foldl_append]; rfl
      repeat' (first
        | (rw [doesO_cons]; simp [hfl, g3, g14, g15, g16, hlt, q1, q2, sum_c, hw, hstep])
        | (rw [doesO_nil']; refine hQ' _ _ _ ?_; clear hQ' Q'; simp only [])
        | refine does_seq hp ?_
        | (refine does_gen hp ?_; intro Q' hQ')
        | refine does_block hp ?_
        | (refine does_ret hp ?_; simp [hfl, g3, g14, g15, g16, hlt, q1, q2, sum_c, hw, hstep])
        | (refine does_skip hp ?_; simp [hfl, g3, g14, g15, g16, hlt, q1, q2, sum_c, hw, hstep])
        | (refine does_exit hp ?_; simp [hfl, g3, g14, g15, g16, hlt, q1, q2, sum_c, hw, hstep])
        | (refine does_cond' hp ?_; simp [hfl, g3, g14, g15, g16, hlt, q1, q2, sum_c, hw, hstep]; done)
        | (refine does_cond' hp ?_; simp [hfl, g3, g14, g15, g16, hlt, q1, q2, sum_c, hw, hstep]; refine fork (fun hcnd => ?_) (fun hcnd => ?_) <;> (try simp at hcnd))
        | (refine does_cond' hp ?_; simp [hfl, g3, g14, g15, g16, hlt, q1, q2, sum_c, hw, hstep]))
      exact ⟨l.length - (i + 1), by omega, trivial, by simp [hfl], i + 1, by omega, rfl, by simp [hfl], by simp [hfl, g14], by simp [hfl, g15], by simp [hfl]⟩
    · have hieq : i = l.length := by omega
      have hnl : ¬ ((i : Int) < (l.length : Int)) := by omega
      subst hieq
      rw [List.take_length] at g3
      repeat' (first
        | (rw [doesO_cons]; simp [hfl, g3, g14, g15, g16, totalN])
        | (rw [doesO_nil']; refine hQ' _ _ _ ?_; clear hQ' Q'; simp only [])
        | refine does_seq hp ?_
        | (refine does_gen hp ?_; intro Q' hQ')
        | refine does_block hp ?_
        | (refine does_ret hp ?_; simp [hfl, g3, g14, g15, g16, totalN])
        | (refine does_skip hp ?_; simp [hfl, g3, g14, g15, g16, totalN])
        | (refine does_exit hp ?_; simp [hfl, g3, g14, g15, g16, totalN])
        | (refine does_cond' hp ?_; simp [hfl, g3, g14, g15, g16, totalN]; done)
        | (refine does_cond' hp ?_; simp [hfl, g3, g14, g15, g16, totalN]; refine fork (fun hcnd => ?_) (fun hcnd => ?_) <;> (try simp at hcnd))
        | (refine does_cond' hp ?_; simp [hfl, g3, g14, g15, g16, totalN]))

/-! ### the least, the most -/
def pick1 (side : Int) (out x : Nat) : Nat := if cmpN (keyN (canB x)) (keyN (canB out)) = side then x else out
def pickN (side : Int) : List Nat → Nat
  | [] => 0
  | b :: l => l.foldl (pick1 side) b
theorem pick1_mem (side : Int) (out x : Nat) : pick1 side out x = out ∨ pick1 side out x = x := by unfold pick1; split <;> simp
theorem pickN_fold_lt (side : Int) : ∀ (l : List Nat) (b : Nat), b < 2 ^ 64 → (∀ x ∈ l, x < 2 ^ 64) → l.foldl (pick1 side) b < 2 ^ 64
  | [], b, hb, _ => hb
  | x :: l, b, hb, hl => by
    refine pickN_fold_lt side l _ ?_ fun y hy => hl y (List.mem_cons_of_mem _ hy)
    rcases pick1_mem side b x with h | h <;> rw [h]
    · exact hb
    · exact hl x (List.mem_cons_self ..)
def PickR (bs : List Nat) (side : Int) : AV := .tup [(false, [.flt (if bs = [] then 0 else canB (pickN side bs))]), (false, [.bool (decide (bs ≠ []))])]
theorem pick_c (h : H) (s : AS) (bs : List Nat) (side : Int) (hs : SeesF h s bs) (hbs : ∀ b ∈ bs, b < 2 ^ 64) (hlen : bs.length < 9223372036854775807) : W K 36 [.one (.int .i64 side), .one s] h = some (.ret (PickR bs side) h) := by
  have hl := sf_len hs
  have hz := sf_size hs
  cases bs with
  | nil =>
    refine W_does hp rfl rfl rfl Try.func36 rfl (by simp [Try.f36]) ?_
    simp only [Try.f36, List.length_cons, List.length_nil, List.replicate, List.cons_append, List.nil_append, Nat.reduceAdd, Nat.reduceSub]
    repeat' (first
      | (rw [doesO_cons]; simp [hl, PickR])
      | (rw [doesO_nil']; refine hQ' _ _ _ ?_; clear hQ' Q'; simp only [])
      | refine does_seq hp ?_
      | (refine does_gen hp ?_; intro Q' hQ')
      | refine does_block hp ?_
      | (refine does_ret hp ?_; simp [hl, PickR])
      | (refine does_skip hp ?_; simp [hl, PickR])
      | (refine does_exit hp ?_; simp [hl, PickR])
      | (refine does_cond' hp ?_; simp [hl, PickR]; done)
      | (refine does_cond' hp ?_; simp [hl, PickR]; refine fork (fun hcnd => ?_) (fun hcnd => ?_) <;> (try simp at hcnd))
      | (refine does_cond' hp ?_; simp [hl, PickR]))
  | cons b l =>
    have h0 : 0 < (b :: l).length := by simp
    have hi := sf_index hs h0
    have hr := sf_read hs h0
    simp only [List.getElem_cons_zero] at hr
    have hcut := sf_cut hs (l := 1) (u := (b :: l).length) (by simp) (Nat.le_refl _)
    have hsl : sliceA h 1 s (some (.one (.int .i64 1))) none none = some (cutS 1 s 1 (b :: l).length) := sees_slice hs (by decide) (n := (b :: l).length) (by simp) rfl rfl (by simp) (Nat.le_refl _)
    have hrest : ((b :: l).drop 1).take ((b :: l).length - 1) = l := by simp
    rw [hrest] at hcut
    generalize cutS 1 s 1 (b :: l).length = s' at hcut hsl
    have hl' := sf_len hcut
    have hne : ((l.length : Int) + 1 == 0) = false := by simp; omega
    have hbb := hbs b (by simp)
    have hll : ∀ x ∈ l, x < 2 ^ 64 := fun x hx => hbs x (by simp [hx])
    refine W_does hp rfl rfl rfl Try.func36 rfl (by simp [Try.f36]) ?_
    simp only [Try.f36, List.length_cons, List.length_nil, List.replicate, List.cons_append, List.nil_append, Nat.reduceAdd, Nat.reduceSub]
    repeat' (first
      | (rw [doesO_cons]; simp [hl, hne, hi, hr, hz, hsl, hl'])
      | (rw [doesO_nil']; refine hQ' _ _ _ ?_; clear hQ' Q'; simp only [])
      | refine does_seq hp ?_
      | (refine does_gen hp ?_; intro Q' hQ')
      | refine does_block hp ?_
      | (refine does_ret hp ?_; simp [hl, hne, hi, hr, hz, hsl, hl'])
      | (refine does_skip hp ?_; simp [hl, hne, hi, hr, hz, hsl, hl'])
      | (refine does_exit hp ?_; simp [hl, hne, hi, hr, hz, hsl, hl'])
      | (refine does_cond' hp ?_; simp [hl, hne, hi, hr, hz, hsl, hl']; done)
      | (refine does_cond' hp ?_; simp [hl, hne, hi, hr, hz, hsl, hl']; refine fork (fun hcnd => ?_) (fun hcnd => ?_) <;> (try simp at hcnd))
      | (refine does_cond' hp ?_; simp [hl, hne, hi, hr, hz, hsl, hl']))
    refine does_loop hp (fun k fr h' => h' = h ∧ fr.length = 31 ∧ ∃ i, i ≤ l.length ∧ k = l.length - i ∧ Fr.get fr 0 = .one (.int .i64 side) ∧ Fr.get fr 6 = .one (.flt ((l.take i).foldl (pick1 side) b)) ∧ Fr.get fr 16 = .one s' ∧ Fr.get fr 17 = .one (.int .i64 l.length) ∧ Fr.get fr 18 = .one (.int .i64 i)) ?_ l.length _ _ ⟨rfl, rfl, 0, by omega, rfl, rfl, rfl, rfl, rfl, rfl⟩
    rintro n fr h' ⟨rfl, hfl, i, hil, rfl, g0, g6, g16, g17, g18⟩
    by_cases hlt : i < l.length
    · have q1 := sf_index hcut hlt
      have q2 := sf_read hcut hlt
      have hw : IntKind.i64.wrap ((i : Int) + 1) = ((i + 1 : Nat) : Int) := by rw [wrap_i (by omega) (by simp at hlen; omega)]; rfl
      have hout := pickN_fold_lt side (l.take i) b hbb fun x hx => hll x (List.mem_of_mem_take hx)
      have ho := order_c l[i] _ (hll _ (List.getElem_mem hlt)) hout
      have hstep : (l.take (i + 1)).foldl (pick1 side) b = pick1 side ((l.take i).foldl (pick1 side) b) l[i] := by
        rw [List.take_succ_eq_append_getElem hlt, List.foldl_append]; rfl
      generalize (l.take i).foldl (pick1 side) b = out at *
      by_cases hc : cmpN (keyN (canB l[i])) (keyN (canB out)) = side
      · have hp1 : pick1 side out l[i] = l[i] := by unfold pick1; rw [if_pos hc]
        rw [hp1] at hstep
        rw [hc] at ho
        repeat' (first
          | (rw [doesO_cons]; simp [hfl, g0, g6, g16, g17, g18, hlt, q1, q2, ho, hw])
          | (rw [doesO_nil']; refine hQ' _ _ _ ?_; clear hQ' Q'; simp only [])
          | refine does_seq hp ?_
          | (refine does_gen hp ?_; intro Q' hQ')
          | refine does_block hp ?_
          | (refine does_ret hp ?_; simp [hfl, g0, g6, g16, g17, g18, hlt, q1, q2, ho, hw])
          | (refine does_skip hp ?_; simp [hfl, g0, g6, g16, g17, g18, hlt, q1, q2, ho, hw])
          | (refine does_exit hp ?_; simp [hfl, g0, g6, g16, g17, g18, hlt, q1, q2, ho, hw])
          | (refine does_cond' hp ?_; simp [hfl, g0, g6, g16, g17, g18, hlt, q1, q2, ho, hw]; done)
          | (refine does_cond' hp ?_; simp [hfl, g0, g6, g16, g17, g18, hlt, q1, q2, ho, hw]; refine fork (fun hcnd => ?_) (fun hcnd => ?_) <;> (try simp at hcnd))
          | (refine does_cond' hp ?_; simp [hfl, g0, g6, g16, g17, g18, hlt, q1, q2, ho, hw]))
        exact ⟨l.length - (i + 1), by omega, trivial, by simp [hfl], i + 1, by omega, rfl, by simp [hfl, g0], by simp [hfl, hstep], by simp [hfl, g16], by simp [hfl, g17], by simp [hfl]⟩
      · have hp1 : pick1 side out l[i] = out := by unfold pick1; rw [if_neg hc]
        rw [hp1] at hstep
        have hcb : (cmpN (keyN (canB l[i])) (keyN (canB out)) == side) = false := by simpa using hc
        repeat' (first
          | (rw [doesO_cons]; simp [hfl, g0, g6, g16, g17, g18, hlt, q1, q2, ho, hw, hcb])
          | (rw [doesO_nil']; refine hQ' _ _ _ ?_; clear hQ' Q'; simp only [])
          | refine does_seq hp ?_
          | (refine does_gen hp ?_; intro Q' hQ')
          | refine does_block hp ?_
          | (refine does_ret hp ?_; simp [hfl, g0, g6, g16, g17, g18, hlt, q1, q2, ho, hw, hcb])
          | (refine does_skip hp ?_; simp [hfl, g0, g6, g16, g17, g18, hlt, q1, q2, ho, hw, hcb])
          | (refine does_exit hp ?_; simp [hfl, g0, g6, g16, g17, g18, hlt, q1, q2, ho, hw, hcb])
          | (refine does_cond' hp ?_; simp [hfl, g0, g6, g16, g17, g18, hlt, q1, q2, ho, hw, hcb]; done)
          | (refine does_cond' hp ?_; simp [hfl, g0, g6, g16, g17, g18, hlt, q1, q2, ho, hw, hcb]; refine fork (fun hcnd => ?_) (fun hcnd => ?_) <;> (try simp at hcnd))
          | (refine does_cond' hp ?_; simp [hfl, g0, g6, g16, g17, g18, hlt, q1, q2, ho, hw, hcb]))
        exact ⟨l.length - (i + 1), by omega, trivial, by simp [hfl], i + 1, by omega, rfl, by simp [hfl, g0], by simp [hfl, hstep, g6], by simp [hfl, g16], by simp [hfl, g17], by simp [hfl]⟩
    · have hieq : i = l.length := by omega
      subst hieq
      rw [List.take_length] at g6
      repeat' (first
        | (rw [doesO_cons]; simp [hfl, g0, g6, g16, g17, g18, PickR, pickN, canon_c])
        | (rw [doesO_nil']; refine hQ' _ _ _ ?_; clear hQ' Q'; simp only [])
        | refine does_seq hp ?_
        | (refine does_gen hp ?_; intro Q' hQ')
        | refine does_block hp ?_
        | (refine does_ret hp ?_; simp [hfl, g0, g6, g16, g17, g18, PickR, pickN, canon_c])
        | (refine does_skip hp ?_; simp [hfl, g0, g6, g16, g17, g18, PickR, pickN, canon_c])
        | (refine does_exit hp ?_; simp [hfl, g0, g6, g16, g17, g18, PickR, pickN, canon_c])
        | (refine does_cond' hp ?_; simp [hfl, g0, g6, g16, g17, g18, PickR, pickN, canon_c]; done)
        | (refine does_cond' hp ?_; simp [hfl, g0, g6, g16, g17, g18, PickR, pickN, canon_c]; refine fork (fun hcnd => ?_) (fun hcnd => ?_) <;> (try simp at hcnd))
        | (refine does_cond' hp ?_; simp [hfl, g0, g6, g16, g17, g18, PickR, pickN, canon_c]))
theorem least_c (h : H) (s : AS) (bs : List Nat) (hs : SeesF h s bs) (hbs : ∀ b ∈ bs, b < 2 ^ 64) (hlen : bs.length < 9223372036854775807) : W K 23 [.one s] h = some (.ret (PickR bs (-1)) h) := by
  have hp1 := pick_c h s bs (-1) hs hbs hlen
  unfold PickR at hp1 ⊢
  refine W_does hp rfl rfl rfl Try.func23 rfl (by simp [Try.f23]) ?_
  simp only [Try.f23, List.length_cons, List.length_nil, List.replicate, List.cons_append, List.nil_append, Nat.reduceAdd, Nat.reduceSub]
  repeat' (first
    | (rw [doesO_cons]; simp [hp1])
    | (rw [doesO_nil']; refine hQ' _ _ _ ?_; clear hQ' Q'; simp only [])
    | refine does_seq hp ?_
    | (refine does_gen hp ?_; intro Q' hQ')
    | refine does_block hp ?_
    | (refine does_ret hp ?_; simp [hp1])
    | (refine does_skip hp ?_; simp [hp1])
    | (refine does_exit hp ?_; simp [hp1])
    | (refine does_cond' hp ?_; simp [hp1]; done)
    | (refine does_cond' hp ?_; simp [hp1]; refine fork (fun hcnd => ?_) (fun hcnd => ?_) <;> (try simp at hcnd))
    | (refine does_cond' hp ?_; simp [hp1]))
theorem most_c (h : H) (s : AS) (bs : List Nat) (hs : SeesF h s bs) (hbs : ∀ b ∈ bs, b < 2 ^ 64) (hlen : bs.length < 9223372036854775807) : W K 24 [.one s] h = some (.ret (PickR bs 1) h) := by
  have hp1 := pick_c h s bs 1 hs hbs hlen
  unfold PickR at hp1 ⊢
  refine W_does hp rfl rfl rfl Try.func24 rfl (by simp [Try.f24]) ?_
  simp only [Try.f24, List.length_cons, List.length_nil, List.replicate, List.cons_append, List.nil_append, Nat.reduceAdd, Nat.reduceSub]
  repeat' (first
    | (rw [doesO_cons]; simp [hp1])
    | (rw [doesO_nil']; refine hQ' _ _ _ ?_; clear hQ' Q'; simp only [])
    | refine does_seq hp ?_
    | (refine does_gen hp ?_; intro Q' hQ')
    | refine does_block hp ?_
    | (refine does_ret hp ?_; simp [hp1])
    | (refine does_skip hp ?_; simp [hp1])
    | (refine does_exit hp ?_; simp [hp1])
    | (refine does_cond' hp ?_; simp [hp1]; done)
    | (refine does_cond' hp ?_; simp [hp1]; refine fork (fun hcnd => ?_) (fun hcnd => ?_) <;> (try simp at hcnd))
    | (refine does_cond' hp ?_; simp [hp1]))
end Go.Proofs.Ytgdonnfchhdflaa
