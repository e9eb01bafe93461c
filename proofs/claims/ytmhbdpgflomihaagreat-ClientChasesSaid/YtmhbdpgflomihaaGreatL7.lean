/- A part of a proof over the abstract machine. No conditions. -/
import Derived.Test.YtmhbdpgflomihaaGreatL6
namespace Go.Proofs.YtmhbdpgflomihaaGreat
open Go Go.Ab Wm NumPlain
set_option linter.unusedSimpArgs false
set_option linter.unnecessarySimpa false
set_option linter.unusedVariables false
set_option maxRecDepth 10000
set_option maxHeartbeats 8000000
def encI (n : Int) : List AS := [ii n]
theorem len_i (n : Int) : (encI n).length = 1 := rfl
theorem asks_op (o_kind : Int) (o_row : BL) (o_hi : BL) (o_cond_has : Bool) (o_cond_want : Bool) (o_cond_col : BL) (o_cond_v_kind : Int) (o_cond_v_b : Option BL) (o_cond_v_n : Nat) (o_l : Option (List Change)) (o_most : Int) (ho : OpIs ⟨o_kind, o_row, o_hi, ⟨o_cond_has, o_cond_want, o_cond_col, ⟨o_cond_v_kind, o_cond_v_b, o_cond_v_n⟩⟩, o_l, o_most⟩) (hnum : OpNum ⟨o_kind, o_row, o_hi, ⟨o_cond_has, o_cond_want, o_cond_col, ⟨o_cond_v_kind, o_cond_v_b, o_cond_v_n⟩⟩, o_l, o_most⟩) {h0 h : H} {k : Int} {row : BL} {g n : Int} {v : AV} (a : Asks h0 h (cAt k row (u8 1 :: encOpB ⟨o_kind, o_row, o_hi, ⟨o_cond_has, o_cond_want, o_cond_col, ⟨o_cond_v_kind, o_cond_v_b, o_cond_v_n⟩⟩, o_l, o_most⟩) g n) true v) (hk : 0 ≤ k ∧ k < 4) :
    ∃ s, v = .one s ∧ W K 12 [.one s, .one (ii g), .one (ii 3), .one (ii k), .one (ii 1), .agg [ii 1, ii o_kind, .str o_row, .str o_hi, .bool o_cond_has, .bool o_cond_want, .str o_cond_col, ii o_cond_v_kind, bs o_cond_v_b, .flt o_cond_v_n, sl 6 encChange o_l, ii o_most, .str [], .str [], ii 0, .str [], ii 0, ii 0, .nilslc]] h = some (.ret (.one (.bool true)) h) := by
  have hl := encOp_len ho
  refine lawAsks_c a (.inr (.inl rfl)) hk (whom_at k row _ g n).2 (by simp only [List.length_cons]; omega) rfl (by simp [pureL, pureS]) ?_ (fun h => refOp_c o_kind o_row o_hi o_cond_has o_cond_want o_cond_col o_cond_v_kind o_cond_v_b o_cond_v_n o_l o_most ho hnum h) (whom_at k row _ g n).1.symm
  intro a ha
  simp only [List.mem_cons, List.not_mem_nil, or_false] at ha
  rcases ha with rfl | rfl | rfl | rfl | rfl | rfl | rfl | rfl | rfl | rfl | rfl | rfl | rfl | rfl | rfl | rfl | rfl | rfl | rfl <;> first | exact bs_plain _ | (cases o_l <;> simp [sl]) | simp
theorem law_chases (id : Int) (hid : I64 id) (o_kind : Int) (o_row : Int) (o_hi : Int) (o_most : Int) (o_col : Int) (o_has : Bool) (o_want : Bool) (o_v_text : Bool) (o_v_n : Int) (o_v_x : Nat) (o_v_b : Option BL) (o_l : Option (List KC)) (hok : KOok ⟨o_kind, o_row, o_hi, o_most, o_col, o_has, o_want, ⟨o_v_text, o_v_n, o_v_x, o_v_b⟩, o_l⟩) (hnum : OpNum (kOp ⟨o_kind, o_row, o_hi, o_most, o_col, o_has, o_want, ⟨o_v_text, o_v_n, o_v_x, o_v_b⟩, o_l⟩)) (gs : Option (List Int)) (hgs : ∀ n ∈ ls gs, I64 n) (hgl : (ls gs).length < 9223372036854775808) (h : H) :
    ∃ r, W K 5 [.one (ii id), .agg [ii o_kind, ii o_row, ii o_hi, ii o_most, ii o_col, .bool o_has, .bool o_want, .bool o_v_text, ii o_v_n, .flt o_v_x, bs o_v_b, sl 7 encKC o_l], .one (sl 1 encI gs)] h = some r ∧ Rets (fun v _ => v = .one (.bool true)) r := by
  refine Rets.intro fun P hP => ?_
  have hk := within_c id 0 3 (by omega) (by omega) (by omega) hid
  have hb := @withinI_bounds id 0 3 (by omega)
  generalize withinI id 0 3 = k at *
  have hk4 : 0 ≤ k ∧ k < 4 := by omega
  have hnew := fun h => new_at_c h k hk4
  have hop := kop_c o_kind o_row o_hi o_most o_col o_has o_want o_v_text o_v_n o_v_x o_v_b o_l hok
  have his := kOp_is ⟨o_kind, o_row, o_hi, o_most, o_col, o_has, o_want, ⟨o_v_text, o_v_n, o_v_x, o_v_b⟩, o_l⟩
  generalize kOp ⟨o_kind, o_row, o_hi, o_most, o_col, o_has, o_want, ⟨o_v_text, o_v_n, o_v_x, o_v_b⟩, o_l⟩ = oo at *
  obtain ⟨p_kind, p_row, p_hi, ⟨p_cond_has, p_cond_want, p_cond_col, ⟨p_cond_v_kind, p_cond_v_b, p_cond_v_n⟩⟩, p_l, p_most⟩ := oo
  have hrow : p_row.length ≤ 16 := his.row
  have hopl : (u8 1 :: encOpB ⟨p_kind, p_row, p_hi, ⟨p_cond_has, p_cond_want, p_cond_col, ⟨p_cond_v_kind, p_cond_v_b, p_cond_v_n⟩⟩, p_l, p_most⟩).length ≤ 1048576 := by have := encOp_len his; simp only [List.length_cons]; omega
  obtain ⟨CB, hCB⟩ : ∃ CB : Blk, (⟨0, [21], true, clC (cNew k) .nilslc⟩ : Blk) = CB := ⟨_, rfl⟩
  have hs := new_set ((h.new ⟨0, [12], true, [ii o_kind, ii o_row, ii o_hi, ii o_most, ii o_col, .bool o_has, .bool o_want, .bool o_v_text, ii o_v_n, .flt o_v_x, bs o_v_b, sl 7 encKC o_l]⟩).new CB) ⟨0, [11], true, [ii 0, .str [], .str [], .bool false, .bool false, .str [], ii 0, .nilslc, .flt 0, .nilslc, ii 0]⟩ ⟨0, [11], true, [ii p_kind, .str p_row, .str p_hi, .bool p_cond_has, .bool p_cond_want, .str p_cond_col, ii p_cond_v_kind, bs p_cond_v_b, .flt p_cond_v_n, sl 6 encChange p_l, ii p_most]⟩
  simp only [new_next] at hs
  have st0 : St (((h.new ⟨0, [12], true, [ii o_kind, ii o_row, ii o_hi, ii o_most, ii o_col, .bool o_has, .bool o_want, .bool o_v_text, ii o_v_n, .flt o_v_x, bs o_v_b, sl 7 encKC o_l]⟩).new CB).new ⟨0, [11], true, [ii p_kind, .str p_row, .str p_hi, .bool p_cond_has, .bool p_cond_want, .str p_cond_col, ii p_cond_v_kind, bs p_cond_v_b, .flt p_cond_v_n, sl 6 encChange p_l, ii p_most]⟩) (h.next + 1) (h.next + 2) ⟨0, [11], true, [ii p_kind, .str p_row, .str p_hi, .bool p_cond_has, .bool p_cond_want, .str p_cond_col, ii p_cond_v_kind, bs p_cond_v_b, .flt p_cond_v_n, sl 6 encChange p_l, ii p_most]⟩ (cNew k) := by
    have c1 := (clAt_new (h.new ⟨0, [12], true, [ii o_kind, ii o_row, ii o_hi, ii o_most, ii o_col, .bool o_has, .bool o_want, .bool o_v_text, ii o_v_n, .flt o_v_x, bs o_v_b, sl 7 encKC o_l]⟩) k)
    rw [hCB] at c1
    refine ⟨c1.new _, by simp, by simp, by omega, ?_⟩
    simp [clQ, ← hCB, clC, ownB]
  simp only [encOp] at hop
  rw [hCB] at hnew
  clear hCB
  refine W_doesQ hp rfl rfl rfl Tryz.func5 rfl (by simp [Tryz.f5]) ?_
  simp only [Tryz.f5, List.length_cons, List.length_nil, List.replicate, List.cons_append, List.nil_append, Nat.reduceAdd, Nat.reduceSub]
  refine hide ?_; intro Q1 hQ1
  repeat' (first
    | (replace hQ1 := hQ1; simp [hk, hnew, hop, nil1, hs])
    | (refine hQ1 _ _ _ ?_; clear hQ1 Q1; first | simp only [] | simp [hk, hnew, hop, nil1, hs])
    | (first | refine dF (id := 7) [0, 1, 2, 3, 4, 5, 6, 7, 8, 9, 10, 11, 12, 13, 14, 15] [(8, 11)] ?_ | refine dF (id := 13) [0, 1, 2, 3, 4, 5, 6, 7, 8, 9, 10, 11, 12, 13] [(6, 10), (7, 10)] ?_ | refine dF (id := 17) [0, 1, 2, 3, 4, 5, 6, 7, 8, 9, 10, 11, 12, 13, 14, 15, 16, 17] [(4, 8), (5, 8)] ?_)
    | (first | refine condK_fork (fun hcnd => ?_) (fun hcnd => ?_) | refine wantK_splitN (fun hcnd => ?_) (fun hcnd => ?_) | refine wantK_split (fun hcnd => ?_) (fun hcnd => ?_)) <;> (try simp only [hcnd]) <;> (try simp [-List.isEmpty_iff, -List.isEmpty_eq_false_iff] at hcnd))
  generalize hH0 : ((h.new ⟨0, [12], true, [ii o_kind, ii o_row, ii o_hi, ii o_most, ii o_col, .bool o_has, .bool o_want, .bool o_v_text, ii o_v_n, .flt o_v_x, bs o_v_b, sl 7 encKC o_l]⟩).new CB).new ⟨0, [11], true, [ii p_kind, .str p_row, .str p_hi, .bool p_cond_has, .bool p_cond_want, .str p_cond_col, ii p_cond_v_kind, bs p_cond_v_b, .flt p_cond_v_n, sl 6 encChange p_l, ii p_most]⟩ = H0 at *
  obtain ⟨p, hpp⟩ : ∃ p, h.next + 1 = p := ⟨_, rfl⟩
  obtain ⟨b9, hb9⟩ : ∃ b9, h.next + 2 = b9 := ⟨_, rfl⟩
  have hb9' : h.next + 1 + 1 = b9 := hb9
  rw [hpp, hb9] at st0
  rw [hpp] at hb9'
  simp only [hpp, hb9']
  obtain ⟨OB, hOB⟩ : ∃ OB : BL, u8 1 :: encOpB ⟨p_kind, p_row, p_hi, ⟨p_cond_has, p_cond_want, p_cond_col, ⟨p_cond_v_kind, p_cond_v_b, p_cond_v_n⟩⟩, p_l, p_most⟩ = OB := ⟨_, rfl⟩
  refine call_rets (submit_cl p_kind p_row p_hi p_cond_has p_cond_want p_cond_col p_cond_v_kind p_cond_v_b p_cond_v_n p_l p_most his st0.cl (by simp [cNew])) (fun v1 h1 hx1 => ?_)
  obtain ⟨rfl, ca1, hd1⟩ := (show _ ∧ _ ∧ _ from hx1)
  have st1 : St h1 p b9 ⟨0, [11], true, [ii p_kind, .str p_row, .str p_hi, .bool p_cond_has, .bool p_cond_want, .str p_cond_col, ii p_cond_v_kind, bs p_cond_v_b, .flt p_cond_v_n, sl 6 encChange p_l, ii p_most]⟩ (cSub k p_row OB) := by rw [← hOB]; exact st0.step ca1 hd1
  have f1 := st1.blk
  have eseq : (cNew k).seq + 1 = 1 := rfl
  simp only [cNew, Int.zero_add]
  rw [hOB] at hopl
  have hw1 : IntKind.i64.wrap 1 = 1 := rfl
  first | (refine hide ?_; intro Q2 hQ2) | have hQ2 := True.intro
  repeat' (first
    | (replace hQ2 := hQ2; simp [f1])
    | (refine hQ2 _ _ _ ?_; clear hQ2 Q2; first | simp only [] | simp [f1] | skip)
    | (refine hadQ (by assumption) ?_; (try clear hQ2); first | simp only [] | simp [f1] | skip)
    | ((fail_if_success replace hQ2 := hQ2); (first | refine hide ?_ | refine hideS ?_ | refine hideB ?_); intro Q2 hQ2)
    | (first | refine dF (id := 7) [0, 1, 2, 3, 4, 5, 6, 7, 8, 9, 10, 11, 12, 13, 14, 15] [(8, 11)] ?_ | refine dF (id := 13) [0, 1, 2, 3, 4, 5, 6, 7, 8, 9, 10, 11, 12, 13] [(6, 10), (7, 10)] ?_ | refine dF (id := 17) [0, 1, 2, 3, 4, 5, 6, 7, 8, 9, 10, 11, 12, 13, 14, 15, 16, 17] [(4, 8), (5, 8)] ?_)
    | (first | refine condK_fork (fun hcnd => ?_) (fun hcnd => ?_) | refine wantK_splitN (fun hcnd => ?_) (fun hcnd => ?_) | refine wantK_split (fun hcnd => ?_) (fun hcnd => ?_)) <;> (try simp only [hcnd]) <;> (try simp [-List.isEmpty_iff, -List.isEmpty_eq_false_iff] at hcnd))
  refine call_rets (tick_cl st1.cl (ok_sub hk4 hrow hopl)) (fun v2 h2 hx2 => ?_)
  obtain ⟨ca2, hd2, as2⟩ := hx2
  rw [tick_sub] at ca2 as2
  have st2 := st1.step ca2 hd2
  obtain ⟨s2, rfl, e2⟩ := asks_loc as2 hk4 hrow
  have f2 := st2.blk
  try simp [f1, f2, e2]
  first | (refine hide ?_; intro Q3 hQ3) | have hQ3 := True.intro
  repeat' (first
    | (replace hQ3 := hQ3; simp [f1, f2, e2])
    | (refine hQ3 _ _ _ ?_; clear hQ3 Q3; first | simp only [] | simp [f1, f2, e2] | skip)
    | (refine hadQ (by assumption) ?_; (try clear hQ3); first | simp only [] | simp [f1, f2, e2] | skip)
    | ((fail_if_success replace hQ3 := hQ3); (first | refine hide ?_ | refine hideS ?_ | refine hideB ?_); intro Q3 hQ3)
    | (first | refine dF (id := 7) [0, 1, 2, 3, 4, 5, 6, 7, 8, 9, 10, 11, 12, 13, 14, 15] [(8, 11)] ?_ | refine dF (id := 13) [0, 1, 2, 3, 4, 5, 6, 7, 8, 9, 10, 11, 12, 13] [(6, 10), (7, 10)] ?_ | refine dF (id := 17) [0, 1, 2, 3, 4, 5, 6, 7, 8, 9, 10, 11, 12, 13, 14, 15, 16, 17] [(4, 8), (5, 8)] ?_)
    | (first | refine condK_fork (fun hcnd => ?_) (fun hcnd => ?_) | refine wantK_splitN (fun hcnd => ?_) (fun hcnd => ?_) | refine wantK_split (fun hcnd => ?_) (fun hcnd => ?_)) <;> (try simp only [hcnd]) <;> (try simp [-List.isEmpty_iff, -List.isEmpty_eq_false_iff] at hcnd))
  obtain ⟨I, hI⟩ : ∃ I : Nat → Fr → H → Prop, I = fun (i : Nat) fr hh => St hh p b9 ⟨0, [11], true, [ii p_kind, .str p_row, .str p_hi, .bool p_cond_has, .bool p_cond_want, .str p_cond_col, ii p_cond_v_kind, bs p_cond_v_b, .flt p_cond_v_n, sl 6 encChange p_l, ii p_most]⟩ (cAsk k p_row OB) ∧ ∃ j : Nat → AV, fr = (j 0 :: j 1 :: (.one (sl 1 encI gs)) :: j 3 :: j 4 :: j 5 :: j 6 :: (.one (ii k)) :: (.one (.ptr p 0 0)) :: (.one (.ptr b9 0 0)) :: j 10 :: j 11 :: (.one (ii i)) :: j 13 :: j 14 :: j 15 :: j 16 :: j 17 :: j 18 :: j 19 :: j 20 :: j 21 :: j 22 :: j 23 :: j 24 :: j 25 :: j 26 :: j 27 :: j 28 :: j 29 :: j 30 :: j 31 :: j 32 :: j 33 :: j 34 :: j 35 :: j 36 :: j 37 :: j 38 :: j 39 :: j 40 :: j 41 :: j 42 :: j 43 :: j 44 :: j 45 :: j 46 :: j 47 :: j 48 :: j 49 :: j 50 :: j 51 :: j 52 :: j 53 :: j 54 :: j 55 :: j 56 :: j 57 :: j 58 :: j 59 :: j 60 :: j 61 :: j 62 :: j 63 :: j 64 :: j 65 :: j 66 :: j 67 :: j 68 :: j 69 :: j 70 :: j 71 :: j 72 :: j 73 :: j 74 :: j 75 :: j 76 :: j 77 :: j 78 :: j 79 :: j 80 :: j 81 :: j 82 :: j 83 :: j 84 :: j 85 :: j 86 :: j 87 :: j 88 :: j 89 :: j 90 :: j 91 :: j 92 :: j 93 :: j 94 :: j 95 :: j 96 :: j 97 :: j 98 :: j 99 :: j 100 :: j 101 :: j 102 :: j 103 :: j 104 :: j 105 :: j 106 :: j 107 :: j 108 :: j 109 :: j 110 :: j 111 :: j 112 :: j 113 :: j 114 :: j 115 :: j 116 :: j 117 :: j 118 :: j 119 :: j 120 :: j 121 :: j 122 :: j 123 :: j 124 :: j 125 :: j 126 :: j 127 :: j 128 :: j 129 :: j 130 :: j 131 :: j 132 :: j 133 :: j 134 :: j 135 :: j 136 :: j 137 :: j 138 :: j 139 :: j 140 :: j 141 :: j 142 :: j 143 :: j 144 :: j 145 :: j 146 :: j 147 :: j 148 :: j 149 :: j 150 :: j 151 :: j 152 :: j 153 :: j 154 :: j 155 :: j 156 :: j 157 :: j 158 :: j 159 :: []) := ⟨_, rfl⟩
  refine does_count hp (min (ls gs).length 12) I ?_ ?_ _ _ (by rw [hI]; exact ⟨st2, ex_get' (by simp)⟩)
  · intro i fr hh hi hx
    rw [hI] at hx
    obtain ⟨st, j, rfl⟩ := hx
    have hi1 : i < (ls gs).length := by omega
    have hi2 : i < 12 := by omega
    have hwi : IntKind.i64.wrap ((i : Int) + 1) = (i : Int) + 1 := step_wrap (by omega)
    have hlt : decide ((i : Int) < (ls gs).length) = true := by simp; omega
    have hlt2 : decide ((i : Int) < 12) = true := by simp; omega
    have hlt3 : (i : Int) < (ls gs).length := by omega
    have hlt4 : (i : Int) < 12 := by omega
    have hib : (0 : Int) ≤ i := by omega
    obtain ⟨a0, x0, r0, hspl, hal⟩ : ∃ a x r, ls gs = a ++ x :: r ∧ a.length = i := ⟨(ls gs).take i, (ls gs)[i], (ls gs).drop (i + 1), split_at hi1, by simp; omega⟩
    have hx0 : I64 x0 := hgs x0 (by rw [hspl]; simp)
    obtain rfl := ls_cons hspl
    have hix := index_sl (P := Tryz.prog) (enc := encI) (s := 1) (l := a0 ++ x0 :: r0) (i := a0.length) Tryz.underlying39 (by simp) (by omega) (by simp)
    have hrd := sub_flat (enc := encI) (s := 1) len_i a0 x0 r0 (o := 0) (n := 1) (by omega)
    have hrd1 : sub (encI x0) 0 1 = some [ii x0] := rfl
    rw [hrd1] at hrd
    simp only [Nat.mul_one, Nat.add_zero, hal] at hix hrd
    have hG := within_c x0 1 3 (by omega) (by omega) (by omega) hx0
    have hGb := @withinI_bounds x0 1 3 (by omega)
    generalize withinI x0 1 3 = g at *
    have hm3 : g.tmod 3 = g % 3 := tmod_pos (by omega)
    have hm4 : IntKind.i64.wrap (g % 3 + 1) = g % 3 + 1 := wrap_i64 (by omega) (by omega)
    have hm5 : g % 3 + 1 ≠ g := by omega
    have ia := ansN_is (code := 0) (g := g) (n := (i : Int) + 1) (by omega) (by omega) (by omega)
    have iw := ansN_is (code := 26) (g := 0) (n := 0) (by omega) (by omega) (by omega)
    have io := ansN_is (code := 27) (g := 0) (n := 0) (by omega) (by omega) (by omega)
    have r1 := fun h => reply_c 0 k 1 hk4 _ ia h
    have r2 := fun h => reply_c (g % 3 + 1) k 1 hk4 _ iw h
    have r3 := fun h => reply_c g k 1 hk4 _ io h
    have r4 := fun h => reply_c g k 1 hk4 _ iw h
    generalize hB1 : ansB0 (ansN 0 g ((i : Int) + 1)) = B1 at *
    generalize hB2 : ansB0 (ansN 26 0 0) = B2 at *
    generalize hB3 : ansB0 (ansN 27 0 0) = B3 at *
    simp only [ansN, ansC, msgC, bs_none] at r1 r2 r3 r4
    have hlt5 : (i : Int) < (a0.length : Int) + ((r0.length : Int) + 1) := by omega
    have f0 := st.blk
    first | (refine hide ?_; intro Q4 hQ4) | have hQ4 := True.intro
    repeat' (first
      | (replace hQ4 := hQ4; simp [f0, hlt, hlt2, hlt3, hlt4, hlt5, hwi, hix, hrd, hG, r1])
      | (refine hQ4 _ _ _ ?_; clear hQ4 Q4; first | simp only [] | simp [f0, hlt, hlt2, hlt3, hlt4, hlt5, hwi, hix, hrd, hG, r1] | skip)
      | (refine hadQ (by assumption) ?_; (try clear hQ4); first | simp only [] | simp [f0, hlt, hlt2, hlt3, hlt4, hlt5, hwi, hix, hrd, hG, r1] | skip)
      | ((fail_if_success replace hQ4 := hQ4); (first | refine hide ?_ | refine hideS ?_ | refine hideB ?_); intro Q4 hQ4)
      | (first | refine dF (id := 7) [0, 1, 2, 3, 4, 5, 6, 7, 8, 9, 10, 11, 12, 13, 14, 15] [(8, 11)] ?_ | refine dF (id := 13) [0, 1, 2, 3, 4, 5, 6, 7, 8, 9, 10, 11, 12, 13] [(6, 10), (7, 10)] ?_ | refine dF (id := 17) [0, 1, 2, 3, 4, 5, 6, 7, 8, 9, 10, 11, 12, 13, 14, 15, 16, 17] [(4, 8), (5, 8)] ?_)
      | (first | refine condK_fork (fun hcnd => ?_) (fun hcnd => ?_) | refine wantK_splitN (fun hcnd => ?_) (fun hcnd => ?_) | refine wantK_split (fun hcnd => ?_) (fun hcnd => ?_)) <;> (try simp only [hcnd]) <;> (try simp [-List.isEmpty_iff, -List.isEmpty_eq_false_iff] at hcnd))
    rw [← hB1]
    refine call_rets (on_st st (ok_ask hk4 hrow hopl) (by simp [cAsk]) 0 (ansN 0 g ((i : Int) + 1)) ia) (fun v3 h3 hx3 => ?_)
    obtain ⟨st3, as3⟩ := hx3
    have ec : (cAsk k p_row OB).id = k := rfl
    rw [ec, on_loc] at st3 as3
    rw [← hOB] at as3
    obtain ⟨s3, rfl, e3⟩ := asks_op p_kind p_row p_hi p_cond_has p_cond_want p_cond_col p_cond_v_kind p_cond_v_b p_cond_v_n p_l p_most his hnum as3 hk4
    have f3 := st3.blk
    try simp [f0, f3, e3, hwi]
    first | (refine hide ?_; intro Q5 hQ5) | have hQ5 := True.intro
    repeat' (first
      | (replace hQ5 := hQ5; simp [f0, f3, e3, hwi, hm3, hm4, r2])
      | (refine hQ5 _ _ _ ?_; clear hQ5 Q5; first | simp only [] | simp [f0, f3, e3, hwi, hm3, hm4, r2] | skip)
      | (refine hadQ (by assumption) ?_; (try clear hQ5); first | simp only [] | simp [f0, f3, e3, hwi, hm3, hm4, r2] | skip)
      | ((fail_if_success replace hQ5 := hQ5); (first | refine hide ?_ | refine hideS ?_ | refine hideB ?_); intro Q5 hQ5)
      | (first | refine dF (id := 7) [0, 1, 2, 3, 4, 5, 6, 7, 8, 9, 10, 11, 12, 13, 14, 15] [(8, 11)] ?_ | refine dF (id := 13) [0, 1, 2, 3, 4, 5, 6, 7, 8, 9, 10, 11, 12, 13] [(6, 10), (7, 10)] ?_ | refine dF (id := 17) [0, 1, 2, 3, 4, 5, 6, 7, 8, 9, 10, 11, 12, 13, 14, 15, 16, 17] [(4, 8), (5, 8)] ?_)
      | (first | refine condK_fork (fun hcnd => ?_) (fun hcnd => ?_) | refine wantK_splitN (fun hcnd => ?_) (fun hcnd => ?_) | refine wantK_split (fun hcnd => ?_) (fun hcnd => ?_)) <;> (try simp only [hcnd]) <;> (try simp [-List.isEmpty_iff, -List.isEmpty_eq_false_iff] at hcnd))
    rw [← hB2]
    refine call_rets (on_st st3 (ok_at hk4 hrow hopl) (by simp [cAt]) (g % 3 + 1) (ansN 26 0 0) iw) (fun v4 h4 hx4 => ?_)
    obtain ⟨st4, s4, rfl, hs4, _⟩ := hx4
    have ed : (cAt k p_row OB g ((i : Int) + 1)).id = k := rfl
    rw [ed, on_other _ _ _ _ _ _ _ hm5] at st4 hs4
    have hs4' : s4 = .nilslc := hs4
    subst hs4'
    have f4 := st4.blk
    try simp [f4]
    first | (refine hide ?_; intro Q6 hQ6) | have hQ6 := True.intro
    repeat' (first
      | (replace hQ6 := hQ6; simp [f4, r3])
      | (refine hQ6 _ _ _ ?_; clear hQ6 Q6; first | simp only [] | simp [f4, r3] | skip)
      | (refine hadQ (by assumption) ?_; (try clear hQ6); first | simp only [] | simp [f4, r3] | skip)
      | ((fail_if_success replace hQ6 := hQ6); (first | refine hide ?_ | refine hideS ?_ | refine hideB ?_); intro Q6 hQ6)
      | (first | refine dF (id := 7) [0, 1, 2, 3, 4, 5, 6, 7, 8, 9, 10, 11, 12, 13, 14, 15] [(8, 11)] ?_ | refine dF (id := 13) [0, 1, 2, 3, 4, 5, 6, 7, 8, 9, 10, 11, 12, 13] [(6, 10), (7, 10)] ?_ | refine dF (id := 17) [0, 1, 2, 3, 4, 5, 6, 7, 8, 9, 10, 11, 12, 13, 14, 15, 16, 17] [(4, 8), (5, 8)] ?_)
      | (first | refine condK_fork (fun hcnd => ?_) (fun hcnd => ?_) | refine wantK_splitN (fun hcnd => ?_) (fun hcnd => ?_) | refine wantK_split (fun hcnd => ?_) (fun hcnd => ?_)) <;> (try simp only [hcnd]) <;> (try simp [-List.isEmpty_iff, -List.isEmpty_eq_false_iff] at hcnd))
    rw [← hB3]
    refine call_rets (on_st st4 (ok_at hk4 hrow hopl) (by simp [cAt]) g (ansN 27 0 0) io) (fun v5 h5 hx5 => ?_)
    obtain ⟨st5, s5, rfl, hs5, _⟩ := hx5
    rw [ed, on_old] at st5 hs5
    have hs5' : s5 = .nilslc := hs5
    subst hs5'
    have f5 := st5.blk
    try simp [f5]
    first | (refine hide ?_; intro Q7 hQ7) | have hQ7 := True.intro
    repeat' (first
      | (replace hQ7 := hQ7; simp [f5, r4])
      | (refine hQ7 _ _ _ ?_; clear hQ7 Q7; first | simp only [] | simp [f5, r4] | skip)
      | (refine hadQ (by assumption) ?_; (try clear hQ7); first | simp only [] | simp [f5, r4] | skip)
      | ((fail_if_success replace hQ7 := hQ7); (first | refine hide ?_ | refine hideS ?_ | refine hideB ?_); intro Q7 hQ7)
      | (first | refine dF (id := 7) [0, 1, 2, 3, 4, 5, 6, 7, 8, 9, 10, 11, 12, 13, 14, 15] [(8, 11)] ?_ | refine dF (id := 13) [0, 1, 2, 3, 4, 5, 6, 7, 8, 9, 10, 11, 12, 13] [(6, 10), (7, 10)] ?_ | refine dF (id := 17) [0, 1, 2, 3, 4, 5, 6, 7, 8, 9, 10, 11, 12, 13, 14, 15, 16, 17] [(4, 8), (5, 8)] ?_)
      | (first | refine condK_fork (fun hcnd => ?_) (fun hcnd => ?_) | refine wantK_splitN (fun hcnd => ?_) (fun hcnd => ?_) | refine wantK_split (fun hcnd => ?_) (fun hcnd => ?_)) <;> (try simp only [hcnd]) <;> (try simp [-List.isEmpty_iff, -List.isEmpty_eq_false_iff] at hcnd))
    rw [← hB2]
    refine call_rets (on_st st5 (ok_at hk4 hrow hopl) (by simp [cAt]) g (ansN 26 0 0) iw) (fun v6 h6 hx6 => ?_)
    obtain ⟨st6, as6⟩ := hx6
    rw [ed, on_wrong] at st6 as6
    obtain ⟨s6, rfl, e6⟩ := asks_loc as6 hk4 hrow
    have f6 := st6.blk
    obtain ⟨oc, hoc, e7⟩ := cached_cl st6.cl (by simp [cAsk])
    have hoc' : (ls oc).length = 0 := by rw [hoc]; rfl
    try simp [f5, f6, e6]
    first | (refine hide ?_; intro Q8 hQ8) | have hQ8 := True.intro
    repeat' (first
      | (replace hQ8 := hQ8; simp [f5, f6, e6, e7, hoc', hwi])
      | (refine hQ8 _ _ _ ?_; clear hQ8 Q8; first | simp only [] | simp [f5, f6, e6, e7, hoc', hwi] | skip)
      | (refine hadQ (by assumption) ?_; (try clear hQ8); first | simp only [] | simp [f5, f6, e6, e7, hoc', hwi] | skip)
      | ((fail_if_success replace hQ8 := hQ8); (first | refine hide ?_ | refine hideS ?_ | refine hideB ?_); intro Q8 hQ8)
      | (first | refine dF (id := 7) [0, 1, 2, 3, 4, 5, 6, 7, 8, 9, 10, 11, 12, 13, 14, 15] [(8, 11)] ?_ | refine dF (id := 13) [0, 1, 2, 3, 4, 5, 6, 7, 8, 9, 10, 11, 12, 13] [(6, 10), (7, 10)] ?_ | refine dF (id := 17) [0, 1, 2, 3, 4, 5, 6, 7, 8, 9, 10, 11, 12, 13, 14, 15, 16, 17] [(4, 8), (5, 8)] ?_)
      | (first | refine condK_fork (fun hcnd => ?_) (fun hcnd => ?_) | refine wantK_splitN (fun hcnd => ?_) (fun hcnd => ?_) | refine wantK_split (fun hcnd => ?_) (fun hcnd => ?_)) <;> (try simp only [hcnd]) <;> (try simp [-List.isEmpty_iff, -List.isEmpty_eq_false_iff] at hcnd))
    all_goals (rw [hI]; exact ⟨st6, ex_get' (by simp)⟩)
  · intro fr hh hx
    rw [hI] at hx
    obtain ⟨st, j, rfl⟩ := hx
    obtain ⟨m, hm⟩ : ∃ m, min (ls gs).length 12 = m := ⟨_, rfl⟩
    rw [hm]
    have q1 : m ≤ (ls gs).length := by omega
    have q2 : m ≤ 12 := by omega
    have q3 : (m = (ls gs).length) ∨ (m = 12 ∧ m < (ls gs).length) := by omega
    have ia := ansN_is (code := 0) (g := 2) (n := 99) (by omega) (by omega) (by omega)
    have ic := ansN_is (code := 25) (g := 0) (n := 0) (by omega) (by omega) (by omega)
    have r1 := fun h => reply_c 0 k 1 hk4 _ ia h
    have r2 := fun h => reply_c 2 k 1 hk4 _ ic h
    generalize hB1 : ansB0 (ansN 0 2 99) = B1 at *
    generalize hB2 : ansB0 (ansN 25 0 0) = B2 at *
    simp only [ansN, ansC, msgC, bs_none] at r1 r2
    rcases q3 with q3 | ⟨q3, q4⟩
    · have d1 : decide ((m : Int) < (ls gs).length) = false := by simp; omega
      have d2 : ¬ (m : Int) < (ls gs).length := by omega
      rw [q3]
      first | (refine hide ?_; intro Q9 hQ9) | have hQ9 := True.intro
      repeat' (first
        | (replace hQ9 := hQ9; simp [r1])
        | (refine hQ9 _ _ _ ?_; clear hQ9 Q9; first | simp only [] | simp [r1] | skip)
        | (refine hadQ (by assumption) ?_; (try clear hQ9); first | simp only [] | simp [r1] | skip)
        | ((fail_if_success replace hQ9 := hQ9); (first | refine hide ?_ | refine hideS ?_ | refine hideB ?_); intro Q9 hQ9)
        | (first | refine dF (id := 7) [0, 1, 2, 3, 4, 5, 6, 7, 8, 9, 10, 11, 12, 13, 14, 15] [(8, 11)] ?_ | refine dF (id := 13) [0, 1, 2, 3, 4, 5, 6, 7, 8, 9, 10, 11, 12, 13] [(6, 10), (7, 10)] ?_ | refine dF (id := 17) [0, 1, 2, 3, 4, 5, 6, 7, 8, 9, 10, 11, 12, 13, 14, 15, 16, 17] [(4, 8), (5, 8)] ?_)
        | (first | refine condK_fork (fun hcnd => ?_) (fun hcnd => ?_) | refine wantK_splitN (fun hcnd => ?_) (fun hcnd => ?_) | refine wantK_split (fun hcnd => ?_) (fun hcnd => ?_)) <;> (try simp only [hcnd]) <;> (try simp [-List.isEmpty_iff, -List.isEmpty_eq_false_iff] at hcnd))
      rw [← hB1]
      refine call_rets (on_st st (ok_ask hk4 hrow hopl) (by simp [cAsk]) 0 (ansN 0 2 99) ia) (fun v3 h3 hx3 => ?_)
      obtain ⟨st3, s3, rfl, _⟩ := hx3
      have ec : (cAsk k p_row OB).id = k := rfl
      rw [ec, on_loc] at st3
      first | (refine hide ?_; intro Q10 hQ10) | have hQ10 := True.intro
      repeat' (first
        | (replace hQ10 := hQ10; simp [r2])
        | (refine hQ10 _ _ _ ?_; clear hQ10 Q10; first | simp only [] | simp [r2] | skip)
        | (refine hadQ (by assumption) ?_; (try clear hQ10); first | simp only [] | simp [r2] | skip)
        | ((fail_if_success replace hQ10 := hQ10); (first | refine hide ?_ | refine hideS ?_ | refine hideB ?_); intro Q10 hQ10)
        | (first | refine dF (id := 7) [0, 1, 2, 3, 4, 5, 6, 7, 8, 9, 10, 11, 12, 13, 14, 15] [(8, 11)] ?_ | refine dF (id := 13) [0, 1, 2, 3, 4, 5, 6, 7, 8, 9, 10, 11, 12, 13] [(6, 10), (7, 10)] ?_ | refine dF (id := 17) [0, 1, 2, 3, 4, 5, 6, 7, 8, 9, 10, 11, 12, 13, 14, 15, 16, 17] [(4, 8), (5, 8)] ?_)
        | (first | refine condK_fork (fun hcnd => ?_) (fun hcnd => ?_) | refine wantK_splitN (fun hcnd => ?_) (fun hcnd => ?_) | refine wantK_split (fun hcnd => ?_) (fun hcnd => ?_)) <;> (try simp only [hcnd]) <;> (try simp [-List.isEmpty_iff, -List.isEmpty_eq_false_iff] at hcnd))
      rw [← hB2]
      refine call_rets (on_st st3 (ok_at hk4 hrow hopl) (by simp [cAt]) 2 (ansN 25 0 0) ic) (fun v4 h4 hx4 => ?_)
      obtain ⟨st4, s4, rfl, hs4, _⟩ := hx4
      have ed : (cAt k p_row OB 2 99).id = k := rfl
      rw [ed, on_cond] at st4 hs4
      have hs4' : s4 = .nilslc := hs4
      subst hs4'
      first | (refine hide ?_; intro Q11 hQ11) | have hQ11 := True.intro
      repeat' (first
        | (replace hQ11 := hQ11; simp)
        | (refine hQ11 _ _ _ ?_; clear hQ11 Q11; first | simp only [] | simp | skip)
        | (refine hadQ (by assumption) ?_; (try clear hQ11); first | simp only [] | simp | skip)
        | ((fail_if_success replace hQ11 := hQ11); (first | refine hide ?_ | refine hideS ?_ | refine hideB ?_); intro Q11 hQ11)
        | (first | refine dF (id := 7) [0, 1, 2, 3, 4, 5, 6, 7, 8, 9, 10, 11, 12, 13, 14, 15] [(8, 11)] ?_ | refine dF (id := 13) [0, 1, 2, 3, 4, 5, 6, 7, 8, 9, 10, 11, 12, 13] [(6, 10), (7, 10)] ?_ | refine dF (id := 17) [0, 1, 2, 3, 4, 5, 6, 7, 8, 9, 10, 11, 12, 13, 14, 15, 16, 17] [(4, 8), (5, 8)] ?_)
        | (first | refine condK_fork (fun hcnd => ?_) (fun hcnd => ?_) | refine wantK_splitN (fun hcnd => ?_) (fun hcnd => ?_) | refine wantK_split (fun hcnd => ?_) (fun hcnd => ?_)) <;> (try simp only [hcnd]) <;> (try simp [-List.isEmpty_iff, -List.isEmpty_eq_false_iff] at hcnd))
      refine call_rets (told_cl st4.cl (norm_is ic)) (fun v5 h5 hx5 => ?_)
      obtain ⟨rfl, ca5, hd5⟩ := hx5
      have st5 := st4.step ca5 hd5
      have hb5 := busy_cl st5.cl
      simp only [Int.reduceEq, if_false, norm, ansN, ansC]
      obtain ⟨r6, e6, hr6⟩ := tick_cl (st5.cl.new ⟨0, [11], true, [ii 25, .nilslc, .str [], .str [], ii 0, ii 0, ii 0, ii 0, ii 0, .str [], bs (some [])]⟩) ⟨hk4, by simp [cAt], by simp [cAt], hrow, hopl, by simp [cAt], by simp [cAt], by simp [cAt]⟩
      obtain ⟨v6, h6, rfl, _, _, s6, rfl, hs6, _⟩ := hr6.ret
      have hs6' : s6 = .nilslc := hs6
      subst hs6'
      have hb6 := busy_cl (st5.cl.new ⟨0, [11], true, [ii 25, .nilslc, .str [], .str [], ii 0, ii 0, ii 0, ii 0, ii 0, .str [], bs (some [])]⟩)
      obtain ⟨h7, e7⟩ := known_c h6
      have hs9 := new_set h5 ⟨0, [11], true, zA⟩ ⟨0, [11], true, [ii 25, .nilslc, .str [], .str [], ii 0, ii 0, ii 0, ii 0, ii 0, .str [], bs (some [])]⟩
      have hq : P (.one (.bool true)) h7 := hP _ _ rfl
      have els : ls (none : Option BL) = [] := rfl
      simp only [els]
      simp only [zA] at hs9
      first | (refine hide ?_; intro Q12 hQ12) | have hQ12 := True.intro
      repeat' (first
        | (replace hQ12 := hQ12; simp [hb6, e6, e7, hs9])
        | (refine hQ12 _ _ _ ?_; clear hQ12 Q12; first | simp only [] | simp [hb6, e6, e7, hs9] | skip)
        | (refine hadQ (by assumption) ?_; (try clear hQ12); first | simp only [] | simp [hb6, e6, e7, hs9] | skip)
        | ((fail_if_success replace hQ12 := hQ12); (first | refine hide ?_ | refine hideS ?_ | refine hideB ?_); intro Q12 hQ12)
        | (first | refine dF (id := 7) [0, 1, 2, 3, 4, 5, 6, 7, 8, 9, 10, 11, 12, 13, 14, 15] [(8, 11)] ?_ | refine dF (id := 13) [0, 1, 2, 3, 4, 5, 6, 7, 8, 9, 10, 11, 12, 13] [(6, 10), (7, 10)] ?_ | refine dF (id := 17) [0, 1, 2, 3, 4, 5, 6, 7, 8, 9, 10, 11, 12, 13, 14, 15, 16, 17] [(4, 8), (5, 8)] ?_)
        | (first | refine condK_fork (fun hcnd => ?_) (fun hcnd => ?_) | refine wantK_splitN (fun hcnd => ?_) (fun hcnd => ?_) | refine wantK_split (fun hcnd => ?_) (fun hcnd => ?_)) <;> (try simp only [hcnd]) <;> (try simp [-List.isEmpty_iff, -List.isEmpty_eq_false_iff] at hcnd))
      all_goals first | exact hq | trace_state
    · have d1 : decide ((m : Int) < (ls gs).length) = true := by simp; omega
      have d2 : (m : Int) < (ls gs).length := by omega
      have d3 : (12 : Int) < (ls gs).length := by omega
      have d4 : 12 < (ls gs).length := by omega
      rw [q3]
      first | (refine hide ?_; intro Q13 hQ13) | have hQ13 := True.intro
      repeat' (first
        | (replace hQ13 := hQ13; simp [r1, d3, d4])
        | (refine hQ13 _ _ _ ?_; clear hQ13 Q13; first | simp only [] | simp [r1, d3, d4] | skip)
        | (refine hadQ (by assumption) ?_; (try clear hQ13); first | simp only [] | simp [r1, d3, d4] | skip)
        | ((fail_if_success replace hQ13 := hQ13); (first | refine hide ?_ | refine hideS ?_ | refine hideB ?_); intro Q13 hQ13)
        | (first | refine dF (id := 7) [0, 1, 2, 3, 4, 5, 6, 7, 8, 9, 10, 11, 12, 13, 14, 15] [(8, 11)] ?_ | refine dF (id := 13) [0, 1, 2, 3, 4, 5, 6, 7, 8, 9, 10, 11, 12, 13] [(6, 10), (7, 10)] ?_ | refine dF (id := 17) [0, 1, 2, 3, 4, 5, 6, 7, 8, 9, 10, 11, 12, 13, 14, 15, 16, 17] [(4, 8), (5, 8)] ?_)
        | (first | refine condK_fork (fun hcnd => ?_) (fun hcnd => ?_) | refine wantK_splitN (fun hcnd => ?_) (fun hcnd => ?_) | refine wantK_split (fun hcnd => ?_) (fun hcnd => ?_)) <;> (try simp only [hcnd]) <;> (try simp [-List.isEmpty_iff, -List.isEmpty_eq_false_iff] at hcnd))
      rw [← hB1]
      refine call_rets (on_st st (ok_ask hk4 hrow hopl) (by simp [cAsk]) 0 (ansN 0 2 99) ia) (fun v3 h3 hx3 => ?_)
      obtain ⟨st3, s3, rfl, _⟩ := hx3
      have ec : (cAsk k p_row OB).id = k := rfl
      rw [ec, on_loc] at st3
      first | (refine hide ?_; intro Q14 hQ14) | have hQ14 := True.intro
      repeat' (first
        | (replace hQ14 := hQ14; simp [r2])
        | (refine hQ14 _ _ _ ?_; clear hQ14 Q14; first | simp only [] | simp [r2] | skip)
        | (refine hadQ (by assumption) ?_; (try clear hQ14); first | simp only [] | simp [r2] | skip)
        | ((fail_if_success replace hQ14 := hQ14); (first | refine hide ?_ | refine hideS ?_ | refine hideB ?_); intro Q14 hQ14)
        | (first | refine dF (id := 7) [0, 1, 2, 3, 4, 5, 6, 7, 8, 9, 10, 11, 12, 13, 14, 15] [(8, 11)] ?_ | refine dF (id := 13) [0, 1, 2, 3, 4, 5, 6, 7, 8, 9, 10, 11, 12, 13] [(6, 10), (7, 10)] ?_ | refine dF (id := 17) [0, 1, 2, 3, 4, 5, 6, 7, 8, 9, 10, 11, 12, 13, 14, 15, 16, 17] [(4, 8), (5, 8)] ?_)
        | (first | refine condK_fork (fun hcnd => ?_) (fun hcnd => ?_) | refine wantK_splitN (fun hcnd => ?_) (fun hcnd => ?_) | refine wantK_split (fun hcnd => ?_) (fun hcnd => ?_)) <;> (try simp only [hcnd]) <;> (try simp [-List.isEmpty_iff, -List.isEmpty_eq_false_iff] at hcnd))
      rw [← hB2]
      refine call_rets (on_st st3 (ok_at hk4 hrow hopl) (by simp [cAt]) 2 (ansN 25 0 0) ic) (fun v4 h4 hx4 => ?_)
      obtain ⟨st4, s4, rfl, hs4, _⟩ := hx4
      have ed : (cAt k p_row OB 2 99).id = k := rfl
      rw [ed, on_cond] at st4 hs4
      have hs4' : s4 = .nilslc := hs4
      subst hs4'
      first | (refine hide ?_; intro Q15 hQ15) | have hQ15 := True.intro
      repeat' (first
        | (replace hQ15 := hQ15; simp)
        | (refine hQ15 _ _ _ ?_; clear hQ15 Q15; first | simp only [] | simp | skip)
        | (refine hadQ (by assumption) ?_; (try clear hQ15); first | simp only [] | simp | skip)
        | ((fail_if_success replace hQ15 := hQ15); (first | refine hide ?_ | refine hideS ?_ | refine hideB ?_); intro Q15 hQ15)
        | (first | refine dF (id := 7) [0, 1, 2, 3, 4, 5, 6, 7, 8, 9, 10, 11, 12, 13, 14, 15] [(8, 11)] ?_ | refine dF (id := 13) [0, 1, 2, 3, 4, 5, 6, 7, 8, 9, 10, 11, 12, 13] [(6, 10), (7, 10)] ?_ | refine dF (id := 17) [0, 1, 2, 3, 4, 5, 6, 7, 8, 9, 10, 11, 12, 13, 14, 15, 16, 17] [(4, 8), (5, 8)] ?_)
        | (first | refine condK_fork (fun hcnd => ?_) (fun hcnd => ?_) | refine wantK_splitN (fun hcnd => ?_) (fun hcnd => ?_) | refine wantK_split (fun hcnd => ?_) (fun hcnd => ?_)) <;> (try simp only [hcnd]) <;> (try simp [-List.isEmpty_iff, -List.isEmpty_eq_false_iff] at hcnd))
      refine call_rets (told_cl st4.cl (norm_is ic)) (fun v5 h5 hx5 => ?_)
      obtain ⟨rfl, ca5, hd5⟩ := hx5
      have st5 := st4.step ca5 hd5
      have hb5 := busy_cl st5.cl
      simp only [Int.reduceEq, if_false, norm, ansN, ansC]
      obtain ⟨r6, e6, hr6⟩ := tick_cl (st5.cl.new ⟨0, [11], true, [ii 25, .nilslc, .str [], .str [], ii 0, ii 0, ii 0, ii 0, ii 0, .str [], bs (some [])]⟩) ⟨hk4, by simp [cAt], by simp [cAt], hrow, hopl, by simp [cAt], by simp [cAt], by simp [cAt]⟩
      obtain ⟨v6, h6, rfl, _, _, s6, rfl, hs6, _⟩ := hr6.ret
      have hs6' : s6 = .nilslc := hs6
      subst hs6'
      have hb6 := busy_cl (st5.cl.new ⟨0, [11], true, [ii 25, .nilslc, .str [], .str [], ii 0, ii 0, ii 0, ii 0, ii 0, .str [], bs (some [])]⟩)
      obtain ⟨h7, e7⟩ := known_c h6
      have hs9 := new_set h5 ⟨0, [11], true, zA⟩ ⟨0, [11], true, [ii 25, .nilslc, .str [], .str [], ii 0, ii 0, ii 0, ii 0, ii 0, .str [], bs (some [])]⟩
      have hq : P (.one (.bool true)) h7 := hP _ _ rfl
      have els : ls (none : Option BL) = [] := rfl
      simp only [els]
      simp only [zA] at hs9
      first | (refine hide ?_; intro Q16 hQ16) | have hQ16 := True.intro
      repeat' (first
        | (replace hQ16 := hQ16; simp [hb6, e6, e7, hs9])
        | (refine hQ16 _ _ _ ?_; clear hQ16 Q16; first | simp only [] | simp [hb6, e6, e7, hs9] | skip)
        | (refine hadQ (by assumption) ?_; (try clear hQ16); first | simp only [] | simp [hb6, e6, e7, hs9] | skip)
        | ((fail_if_success replace hQ16 := hQ16); (first | refine hide ?_ | refine hideS ?_ | refine hideB ?_); intro Q16 hQ16)
        | (first | refine dF (id := 7) [0, 1, 2, 3, 4, 5, 6, 7, 8, 9, 10, 11, 12, 13, 14, 15] [(8, 11)] ?_ | refine dF (id := 13) [0, 1, 2, 3, 4, 5, 6, 7, 8, 9, 10, 11, 12, 13] [(6, 10), (7, 10)] ?_ | refine dF (id := 17) [0, 1, 2, 3, 4, 5, 6, 7, 8, 9, 10, 11, 12, 13, 14, 15, 16, 17] [(4, 8), (5, 8)] ?_)
        | (first | refine condK_fork (fun hcnd => ?_) (fun hcnd => ?_) | refine wantK_splitN (fun hcnd => ?_) (fun hcnd => ?_) | refine wantK_split (fun hcnd => ?_) (fun hcnd => ?_)) <;> (try simp only [hcnd]) <;> (try simp [-List.isEmpty_iff, -List.isEmpty_eq_false_iff] at hcnd))
      all_goals first | exact hq | trace_state
end Go.Proofs.YtmhbdpgflomihaaGreat
