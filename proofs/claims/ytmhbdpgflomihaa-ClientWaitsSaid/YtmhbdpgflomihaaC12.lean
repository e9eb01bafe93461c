/- A part of a proof over the abstract machine. No conditions. -/
import Derived.Test.YtmhbdpgflomihaaC10
import Derived.Test.YtmhbdpgflomihaaAb5
/- The law: a client that nobody answers asks again. No conditions. -/
namespace Go.Proofs.Ytmhbdpgflomihaa
open Go Go.Ab Wm NumPlain
set_option linter.unusedSimpArgs false
set_option linter.unnecessarySimpa false
set_option linter.unusedVariables false
set_option maxRecDepth 10000
set_option maxHeartbeats 4000000
theorem nil1 (c : Nat → Option (List AS)) (b v o : Nat) : bin Try.prog c .eql 30 (.one (.ptr b v o)) (.one .nilptr) = some (.bool false) := by simp [bin, ford, equalA]
theorem nil2 (c : Nat → Option (List AS)) (b v o : Nat) : bin Try.prog c .neq 30 (.one (.ptr b v o)) (.one .nilptr) = some (.bool true) := by simp [bin, ford, equalA]
theorem nil3 (c : Nat → Option (List AS)) : bin Try.prog c .neq 30 (.one .nilptr) (.one .nilptr) = some (.bool false) := by simp [bin, ford, equalA]
theorem submitOp_c {o : Wm.Op} (ho : OpIs o) {h : H} {p : Nat} (hp1 : p < h.next) {id n seq : Int} {row : BL} {op : Option BL} {w g : Int} (hs : 0 ≤ seq ∧ seq < 1000) (hf : h.f p = some (cliB id n seq false row op w g)) :
    W K 6 [.one (.ptr p 0 0), .agg (encOp o)] h = some (.ret (.tup [(false, [ii (seq + 1)]), (false, [ii 0])]) ((h.new ⟨0, [11], true, encOp o⟩).set p (cliB id n (seq + 1) true o.row (some (u8 1 :: encOpB o)) 0 0))) := by
  have hl := encOp_len ho
  obtain ⟨g1, g2, g3, g4, g5, g6, g7⟩ := ho
  obtain ⟨o_kind, o_row, o_hi, ⟨o_cond_has, o_cond_want, o_cond_col, ⟨o_cond_v_kind, o_cond_v_b, o_cond_v_n⟩⟩, o_l, o_most⟩ := o
  exact submit_c o_kind o_row o_hi o_cond_has o_cond_want o_cond_col o_cond_v_kind o_cond_v_b o_cond_v_n o_l o_most g1 (by simp at g2; omega) (by simp at g3; omega) (by simp at g4; omega) (by simp at g5; omega) (fun c hc => by have := g6 c hc; omega) (by simp at g7; omega) (by simp only [List.length_cons]; omega) hp1 hs hf
theorem elem3 {h : H} {id seq : Int} {b : BL} {s : AS} (gr : Grown h 10 (askM id seq b) s (List.range 3)) {i : Nat} (hi : i < 3) : ∃ b' v, indexA Try.prog 43 s i = some (.ptr b' v (i * 10)) ∧ readC h (.ptr b' v (i * 10)) 10 = some (askM id seq b i) := by
  obtain rfl | rfl | rfl : i = 0 ∨ i = 1 ∨ i = 2 := by omega
  · exact grown_at (P := Try.prog) (t := 43) Try.underlying43 (by simp) (by omega) (len_askM id seq b) (a := []) (x := 0) (r := [1, 2]) gr
  · exact grown_at (P := Try.prog) (t := 43) Try.underlying43 (by simp) (by omega) (len_askM id seq b) (a := [0]) (x := 1) (r := [2]) gr
  · exact grown_at (P := Try.prog) (t := 43) Try.underlying43 (by simp) (by omega) (len_askM id seq b) (a := [0, 1]) (x := 2) (r := []) gr
theorem len3 {h : H} {id seq : Int} {b : BL} {s : AS} (gr : Grown h 10 (askM id seq b) s (List.range 3)) (u : Nat) (hh : H) : lenA s (some (.slice u)) hh = some (one (ii 3) hh) := by
  have := grown_len (by omega) (len_askM id seq b) gr
  obtain ⟨o, o2⟩ := gr
  clear o2
  cases s <;> simp only [Owns] at o <;> simp [lenS] at this <;> simp [lenA, lenS, this]
theorem law_c (id ticks : Int) (hid : I64 id) (htk : I64 ticks) (o_kind : Int) (o_row : Int) (o_hi : Int) (o_most : Int) (o_col : Int) (o_has : Bool) (o_want : Bool) (o_v_text : Bool) (o_v_n : Int) (o_v_x : Nat) (o_v_b : Option BL) (o_l : Option (List KC)) (hok : KOok ⟨o_kind, o_row, o_hi, o_most, o_col, o_has, o_want, ⟨o_v_text, o_v_n, o_v_x, o_v_b⟩, o_l⟩) (hkn : ∀ h, ∃ h', W K 11 [] h = some (.ret (.one (.bool true)) h')) (h : H) :
    ∃ r, W K 3 [.one (ii id), .agg [ii o_kind, ii o_row, ii o_hi, ii o_most, ii o_col, .bool o_has, .bool o_want, .bool o_v_text, ii o_v_n, .flt o_v_x, bs o_v_b, sl 7 encKC o_l], .one (ii ticks)] h = some r ∧ ∃ h', r = .ret (.one (.bool true)) h' := by
  have hk := within_c id 0 3 (by omega) (by omega) (by omega) hid
  have hb := @withinI_bounds id 0 3 (by omega)
  have hT := within_c ticks 1 50 (by omega) (by omega) (by omega) htk
  have hTb := @withinI_bounds ticks 1 50 (by omega)
  generalize withinI id 0 3 = k at *
  generalize withinI ticks 1 50 = N at *
  have hnew := clientNew_c k hb.1 (by omega)
  have hop := kop_c o_kind o_row o_hi o_most o_col o_has o_want o_v_text o_v_n o_v_x o_v_b o_l hok
  have his := kOp_is ⟨o_kind, o_row, o_hi, o_most, o_col, o_has, o_want, ⟨o_v_text, o_v_n, o_v_x, o_v_b⟩, o_l⟩
  generalize kOp ⟨o_kind, o_row, o_hi, o_most, o_col, o_has, o_want, ⟨o_v_text, o_v_n, o_v_x, o_v_b⟩, o_l⟩ = o at *
  have hsub := submitOp_c his (h := (h.new ⟨0, [12], true, [ii o_kind, ii o_row, ii o_hi, ii o_most, ii o_col, .bool o_has, .bool o_want, .bool o_v_text, ii o_v_n, .flt o_v_x, bs o_v_b, sl 7 encKC o_l]⟩).new (cliB k 3 0 false [] none 0 0)) (p := h.next + 1) (by simp) (id := k) (n := 3) (row := []) (op := none) (w := 0) (g := 0) (seq := 0) (by omega) (by simp)
  have hrow : o.row.length ≤ 16 := his.row
  have hbusy := @busy_c
  refine W_doesQ hp rfl rfl rfl Try.func3 rfl (by simp [Try.f3]) ?_
  simp only [Try.f3, List.length_cons, List.length_nil, List.replicate, List.cons_append, List.nil_append, Nat.reduceAdd, Nat.reduceSub]
  repeat' (first
    | (rw [doesO_cons]; simp [hk, hT, hnew, hop, hsub, nil1])
    | (rw [doesO_nil']; refine hQ' _ _ _ ?_; clear hQ' Q'; first | simp only [] | simp [hk, hT, hnew, hop, hsub, nil1])
    | (simp only [List.append_eq]; simp only [List.cons_append, List.nil_append])
    | (rw [doesD_cons]; simp [hk, hT, hnew, hop, hsub, nil1])
    | (rw [doesD_nil]; refine hQ' _ _ _ ?_; clear hQ' Q'; first | simp only [] | simp [hk, hT, hnew, hop, hsub, nil1])
    | refine does_seq hp ?_
    | (refine does_gen hp ?_; intro Q' hQ')
    | (refine doesD_gen (id := 30) hp [0, 1, 2, 3, 4, 5, 6, 7, 8, 9, 10, 11, 12] [] (by kernel_rfl) ?_; intro Q' hQ')
    | refine does_block hp ?_
    | (refine does_ret hp ?_; simp [hk, hT, hnew, hop, hsub, nil1])
    | (refine does_skip hp ?_; simp [hk, hT, hnew, hop, hsub, nil1])
    | (refine does_exit hp ?_; simp [hk, hT, hnew, hop, hsub, nil1])
    | (refine does_cond' hp ?_; simp [hk, hT, hnew, hop, hsub, nil1]; done)
    | (refine onW_split (fun hcnd => ?_) (fun hcnd => ?_) <;> simp only [hcnd] <;> (try simp [-List.isEmpty_iff, -List.isEmpty_eq_false_iff] at hcnd) <;> simp [hk, hT, hnew, hop, hsub, nil1])
    | (refine does_cond' hp ?_; simp [hk, hT, hnew, hop, hsub, nil1]; refine fork (fun hcnd => ?_) (fun hcnd => ?_) <;> (try simp only [hcnd]) <;> (try simp [-List.isEmpty_iff, -List.isEmpty_eq_false_iff] at hcnd))
    | (refine does_cond' hp ?_; simp [hk, hT, hnew, hop, hsub, nil1]))
  obtain ⟨p, hp0⟩ : ∃ p, h.next + 1 = p := ⟨_, rfl⟩
  rw [hp0]
  refine does_count hp N.toNat (fun n fr hh => ∃ st w g s, hh.f p = some (cliB k 3 1 true o.row (some (u8 1 :: encOpB o)) w g) ∧ p < hh.next ∧ ((st = 0 ∧ w = 0 ∧ g = 0 ∧ s = .nilslc) ∨ (1 ≤ w ∧ w ≤ g ∧ g ≤ 4 ∧ st = g - w ∧ Grown hh 10 (askM k 1 (u8 7 :: textB o.row)) s (List.range 3) ∧ ownB s ≠ some p)) ∧ ∃ j, fr = (j 0 :: j 1 :: j 2 :: j 3 :: j 4 :: j 5 :: j 6 :: j 7 :: (.one (.ptr p 0 0)) :: j 9 :: j 10 :: (.one (ii st)) :: (.one s) :: (.one (ii (N - n))) :: j 14 :: j 15 :: j 16 :: j 17 :: j 18 :: j 19 :: j 20 :: j 21 :: j 22 :: j 23 :: j 24 :: j 25 :: j 26 :: j 27 :: j 28 :: j 29 :: j 30 :: j 31 :: j 32 :: j 33 :: j 34 :: j 35 :: j 36 :: j 37 :: j 38 :: j 39 :: j 40 :: j 41 :: j 42 :: j 43 :: j 44 :: j 45 :: j 46 :: j 47 :: j 48 :: j 49 :: j 50 :: j 51 :: j 52 :: j 53 :: j 54 :: j 55 :: j 56 :: j 57 :: j 58 :: j 59 :: j 60 :: j 61 :: j 62 :: j 63 :: j 64 :: j 65 :: j 66 :: j 67 :: j 68 :: j 69 :: j 70 :: j 71 :: j 72 :: j 73 :: j 74 :: j 75 :: j 76 :: j 77 :: j 78 :: j 79 :: j 80 :: j 81 :: j 82 :: j 83 :: j 84 :: j 85 :: j 86 :: [])) ?_ ?_ _ _ ⟨0, 0, 0, .nilslc, by subst hp0; simp, by subst hp0; simp, .inl ⟨rfl, rfl, rfl, rfl⟩, ex_get' (by simp)⟩
  · rintro n fr hh hn ⟨st, w, g, s, hf, hpn, hcase, j, rfl⟩
    have hN1 : IntKind.i64.wrap (N - n - 1) = N - ((n + 1 : Nat) : Int) := by rw [wrap_i64 (by omega) (by omega)]; omega
    have hlN : decide ((n : Int) < N) = true := by simp; omega
    have hlN2 : (n : Int) < N := by omega
    rcases hcase with ⟨rfl, rfl, rfl, rfl⟩ | ⟨w1, w2, g4, rfl, gs, hos⟩
    · obtain ⟨r, e1, s', h', rfl, gr, hn1, hk1, hf1, ho1⟩ := tick_ask hpn (id := k) (g' := 1) (by omega) hrow (by omega) (by omega) hf (by simp)
      have hlen := len3 gr
      repeat' (first
        | (rw [doesO_cons]; simp [hlN, hlN2, e1, hlen])
        | (rw [doesO_nil']; refine hQ' _ _ _ ?_; clear hQ' Q'; first | simp only [] | simp [hlN, hlN2, e1, hlen])
        | (simp only [List.append_eq]; simp only [List.cons_append, List.nil_append])
        | (rw [doesD_cons]; simp [hlN, hlN2, e1, hlen])
        | (rw [doesD_nil]; refine hQ' _ _ _ ?_; clear hQ' Q'; first | simp only [] | simp [hlN, hlN2, e1, hlen])
        | refine does_seq hp ?_
        | (refine does_gen hp ?_; intro Q' hQ')
        | (refine doesD_gen (id := 30) hp [0, 1, 2, 3, 4, 5, 6, 7, 8, 9, 10, 11, 12] [] (by kernel_rfl) ?_; intro Q' hQ')
        | refine does_block hp ?_
        | (refine does_ret hp ?_; simp [hlN, hlN2, e1, hlen])
        | (refine does_skip hp ?_; simp [hlN, hlN2, e1, hlen])
        | (refine does_exit hp ?_; simp [hlN, hlN2, e1, hlen])
        | (refine does_cond' hp ?_; simp [hlN, hlN2, e1, hlen]; done)
        | (refine onW_split (fun hcnd => ?_) (fun hcnd => ?_) <;> simp only [hcnd] <;> (try simp [-List.isEmpty_iff, -List.isEmpty_eq_false_iff] at hcnd) <;> simp [hlN, hlN2, e1, hlen])
        | (refine does_cond' hp ?_; simp [hlN, hlN2, e1, hlen]; refine fork (fun hcnd => ?_) (fun hcnd => ?_) <;> (try simp only [hcnd]) <;> (try simp [-List.isEmpty_iff, -List.isEmpty_eq_false_iff] at hcnd))
        | (refine does_cond' hp ?_; simp [hlN, hlN2, e1, hlen]))
      refine does_count hp 3 (fun i fr hh => ∃ j, fr = (j 0 :: j 1 :: j 2 :: j 3 :: j 4 :: j 5 :: j 6 :: j 7 :: (.one (.ptr p 0 0)) :: j 9 :: j 10 :: (.one (ii 0)) :: (.one s') :: (.one (ii (N - n))) :: (.one s') :: (.one (ii i)) :: j 16 :: j 17 :: j 18 :: j 19 :: j 20 :: j 21 :: j 22 :: j 23 :: j 24 :: j 25 :: j 26 :: j 27 :: j 28 :: j 29 :: j 30 :: j 31 :: j 32 :: j 33 :: j 34 :: j 35 :: j 36 :: j 37 :: j 38 :: j 39 :: j 40 :: j 41 :: j 42 :: j 43 :: j 44 :: j 45 :: j 46 :: j 47 :: j 48 :: j 49 :: j 50 :: j 51 :: j 52 :: j 53 :: j 54 :: j 55 :: j 56 :: j 57 :: j 58 :: j 59 :: j 60 :: j 61 :: j 62 :: j 63 :: j 64 :: j 65 :: j 66 :: j 67 :: j 68 :: j 69 :: j 70 :: j 71 :: j 72 :: j 73 :: j 74 :: j 75 :: j 76 :: j 77 :: j 78 :: j 79 :: j 80 :: j 81 :: j 82 :: j 83 :: j 84 :: j 85 :: j 86 :: []) ∧ h' = hh) ?_ ?_ _ _ (ex_get rfl rfl)
      · rintro i fr hh hi ⟨j, rfl, rfl⟩
        have hwi : IntKind.i64.wrap ((i : Int) + 1) = ((i : Int) + 1) := step_wrap (by omega)
        have hli : decide ((i : Int) < 3) = true := by simp; omega
        have hli2 : (i : Int) < 3 := by omega
        repeat' (first
          | (rw [doesO_cons]; simp [hwi, hli, hli2])
          | (rw [doesO_nil']; refine hQ' _ _ _ ?_; clear hQ' Q'; first | simp only [] | simp [hwi, hli, hli2])
          | (simp only [List.append_eq]; simp only [List.cons_append, List.nil_append])
          | (rw [doesD_cons]; simp [hwi, hli, hli2])
          | (rw [doesD_nil]; refine hQ' _ _ _ ?_; clear hQ' Q'; first | simp only [] | simp [hwi, hli, hli2])
          | refine does_seq hp ?_
          | (refine does_gen hp ?_; intro Q' hQ')
          | (refine doesD_gen (id := 30) hp [0, 1, 2, 3, 4, 5, 6, 7, 8, 9, 10, 11, 12] [] (by kernel_rfl) ?_; intro Q' hQ')
          | refine does_block hp ?_
          | (refine does_ret hp ?_; simp [hwi, hli, hli2])
          | (refine does_skip hp ?_; simp [hwi, hli, hli2])
          | (refine does_exit hp ?_; simp [hwi, hli, hli2])
          | (refine does_cond' hp ?_; simp [hwi, hli, hli2]; done)
          | (refine onW_split (fun hcnd => ?_) (fun hcnd => ?_) <;> simp only [hcnd] <;> (try simp [-List.isEmpty_iff, -List.isEmpty_eq_false_iff] at hcnd) <;> simp [hwi, hli, hli2])
          | (refine does_cond' hp ?_; simp [hwi, hli, hli2]; refine fork (fun hcnd => ?_) (fun hcnd => ?_) <;> (try simp only [hcnd]) <;> (try simp [-List.isEmpty_iff, -List.isEmpty_eq_false_iff] at hcnd))
          | (refine does_cond' hp ?_; simp [hwi, hli, hli2]))
        refine does_count hp 3 (fun m fr hh => ∃ j, fr = (j 0 :: j 1 :: j 2 :: j 3 :: j 4 :: j 5 :: j 6 :: j 7 :: (.one (.ptr p 0 0)) :: j 9 :: j 10 :: (.one (ii 0)) :: (.one s') :: (.one (ii (N - n))) :: (.one s') :: (.one (ii i)) :: (.one (.bool (decide (i < m)))) :: (.one (ii m)) :: j 18 :: j 19 :: j 20 :: j 21 :: j 22 :: j 23 :: j 24 :: j 25 :: j 26 :: j 27 :: j 28 :: j 29 :: j 30 :: j 31 :: j 32 :: j 33 :: j 34 :: j 35 :: j 36 :: j 37 :: j 38 :: j 39 :: j 40 :: j 41 :: j 42 :: j 43 :: j 44 :: j 45 :: j 46 :: j 47 :: j 48 :: j 49 :: j 50 :: j 51 :: j 52 :: j 53 :: j 54 :: j 55 :: j 56 :: j 57 :: j 58 :: j 59 :: j 60 :: j 61 :: j 62 :: j 63 :: j 64 :: j 65 :: j 66 :: j 67 :: j 68 :: j 69 :: j 70 :: j 71 :: j 72 :: j 73 :: j 74 :: j 75 :: j 76 :: j 77 :: j 78 :: j 79 :: j 80 :: j 81 :: j 82 :: j 83 :: j 84 :: j 85 :: j 86 :: []) ∧ h' = hh) ?_ ?_ _ _ (ex_get (by simp) rfl)
        · rintro m fr hh hm ⟨j, rfl, rfl⟩
          have hwm : IntKind.i64.wrap ((m : Int) + 1) = ((m : Int) + 1) := step_wrap (by omega)
          have hlm : decide ((m : Int) < 3) = true := by simp; omega
          have hlm2 : (m : Int) < 3 := by omega
          obtain ⟨b1, v1, i1, r1⟩ := elem3 gr hi
          obtain ⟨b2, v2, i2, r2⟩ := elem3 gr hm
          have hsame : ∀ h, W K 9 [.agg (askM k 1 (u8 7 :: textB o.row) i), .agg (askM k 1 (u8 7 :: textB o.row) m)] h = some (.ret (.one (.bool ((i : Int) == (m : Int)))) h) := fun h => same0_c 1 0 (100 + k) i 0 0 k 1 (some (u8 7 :: textB o.row)) m (some (u8 7 :: textB o.row)) rfl h
          rcases Nat.lt_trichotomy i m with hlt | hlt | hlt
          · have f1 : decide (i < m) = true := by simp; omega
            have f2 : decide (i < m + 1) = true := by simp; omega
            simp only [f1]
            repeat' (first
              | (rw [doesO_cons]; simp [-read_ptr, -decide_eq_true_eq, hwm, hlm, hlm2, i1, r1, i2, r2, hsame, f2])
              | (rw [doesO_nil']; refine hQ' _ _ _ ?_; clear hQ' Q'; first | simp only [] | simp [-read_ptr, -decide_eq_true_eq, hwm, hlm, hlm2, i1, r1, i2, r2, hsame, f2])
              | (simp only [List.append_eq]; simp only [List.cons_append, List.nil_append])
              | (rw [doesD_cons]; simp [-read_ptr, -decide_eq_true_eq, hwm, hlm, hlm2, i1, r1, i2, r2, hsame, f2])
              | (rw [doesD_nil]; refine hQ' _ _ _ ?_; clear hQ' Q'; first | simp only [] | simp [-read_ptr, -decide_eq_true_eq, hwm, hlm, hlm2, i1, r1, i2, r2, hsame, f2])
              | refine does_seq hp ?_
              | (refine does_gen hp ?_; intro Q' hQ')
              | (refine doesD_gen (id := 30) hp [0, 1, 2, 3, 4, 5, 6, 7, 8, 9, 10, 11, 12] [] (by kernel_rfl) ?_; intro Q' hQ')
              | refine does_block hp ?_
              | (refine does_ret hp ?_; simp [-read_ptr, -decide_eq_true_eq, hwm, hlm, hlm2, i1, r1, i2, r2, hsame, f2])
              | (refine does_skip hp ?_; simp [-read_ptr, -decide_eq_true_eq, hwm, hlm, hlm2, i1, r1, i2, r2, hsame, f2])
              | (refine does_exit hp ?_; simp [-read_ptr, -decide_eq_true_eq, hwm, hlm, hlm2, i1, r1, i2, r2, hsame, f2])
              | (refine does_cond' hp ?_; simp [-read_ptr, -decide_eq_true_eq, hwm, hlm, hlm2, i1, r1, i2, r2, hsame, f2]; done)
              | (refine onW_split (fun hcnd => ?_) (fun hcnd => ?_) <;> simp only [hcnd] <;> (try simp [-List.isEmpty_iff, -List.isEmpty_eq_false_iff] at hcnd) <;> simp [-read_ptr, -decide_eq_true_eq, hwm, hlm, hlm2, i1, r1, i2, r2, hsame, f2])
              | (refine does_cond' hp ?_; simp [-read_ptr, -decide_eq_true_eq, hwm, hlm, hlm2, i1, r1, i2, r2, hsame, f2]; refine fork (fun hcnd => ?_) (fun hcnd => ?_) <;> (try simp only [hcnd]) <;> (try simp [-List.isEmpty_iff, -List.isEmpty_eq_false_iff] at hcnd))
              | (refine does_cond' hp ?_; simp [-read_ptr, -decide_eq_true_eq, hwm, hlm, hlm2, i1, r1, i2, r2, hsame, f2]))
            all_goals exact ⟨ex_get' rfl, trivial⟩
          · have f1 : decide (i < m) = false := by simp; omega
            have f2 : decide (i < m + 1) = true := by simp; omega
            have f3 : ((i : Int) == (m : Int)) = true := by simp; omega
            rw [f3] at hsame
            simp only [f1]
            repeat' (first
              | (rw [doesO_cons]; simp [-read_ptr, -decide_eq_true_eq, hwm, hlm, hlm2, i1, r1, i2, r2, hsame, f2])
              | (rw [doesO_nil']; refine hQ' _ _ _ ?_; clear hQ' Q'; first | simp only [] | simp [-read_ptr, -decide_eq_true_eq, hwm, hlm, hlm2, i1, r1, i2, r2, hsame, f2])
              | (simp only [List.append_eq]; simp only [List.cons_append, List.nil_append])
              | (rw [doesD_cons]; simp [-read_ptr, -decide_eq_true_eq, hwm, hlm, hlm2, i1, r1, i2, r2, hsame, f2])
              | (rw [doesD_nil]; refine hQ' _ _ _ ?_; clear hQ' Q'; first | simp only [] | simp [-read_ptr, -decide_eq_true_eq, hwm, hlm, hlm2, i1, r1, i2, r2, hsame, f2])
              | refine does_seq hp ?_
              | (refine does_gen hp ?_; intro Q' hQ')
              | (refine doesD_gen (id := 30) hp [0, 1, 2, 3, 4, 5, 6, 7, 8, 9, 10, 11, 12] [] (by kernel_rfl) ?_; intro Q' hQ')
              | refine does_block hp ?_
              | (refine does_ret hp ?_; simp [-read_ptr, -decide_eq_true_eq, hwm, hlm, hlm2, i1, r1, i2, r2, hsame, f2])
              | (refine does_skip hp ?_; simp [-read_ptr, -decide_eq_true_eq, hwm, hlm, hlm2, i1, r1, i2, r2, hsame, f2])
              | (refine does_exit hp ?_; simp [-read_ptr, -decide_eq_true_eq, hwm, hlm, hlm2, i1, r1, i2, r2, hsame, f2])
              | (refine does_cond' hp ?_; simp [-read_ptr, -decide_eq_true_eq, hwm, hlm, hlm2, i1, r1, i2, r2, hsame, f2]; done)
              | (refine onW_split (fun hcnd => ?_) (fun hcnd => ?_) <;> simp only [hcnd] <;> (try simp [-List.isEmpty_iff, -List.isEmpty_eq_false_iff] at hcnd) <;> simp [-read_ptr, -decide_eq_true_eq, hwm, hlm, hlm2, i1, r1, i2, r2, hsame, f2])
              | (refine does_cond' hp ?_; simp [-read_ptr, -decide_eq_true_eq, hwm, hlm, hlm2, i1, r1, i2, r2, hsame, f2]; refine fork (fun hcnd => ?_) (fun hcnd => ?_) <;> (try simp only [hcnd]) <;> (try simp [-List.isEmpty_iff, -List.isEmpty_eq_false_iff] at hcnd))
              | (refine does_cond' hp ?_; simp [-read_ptr, -decide_eq_true_eq, hwm, hlm, hlm2, i1, r1, i2, r2, hsame, f2]))
            all_goals exact ⟨ex_get' rfl, trivial⟩
          · have f1 : decide (i < m) = false := by simp; omega
            have f2 : decide (i < m + 1) = false := by simp; omega
            have f3 : ((i : Int) == (m : Int)) = false := by simp; omega
            rw [f3] at hsame
            simp only [f1]
            repeat' (first
              | (rw [doesO_cons]; simp [-read_ptr, -decide_eq_true_eq, hwm, hlm, hlm2, i1, r1, i2, r2, hsame, f2])
              | (rw [doesO_nil']; refine hQ' _ _ _ ?_; clear hQ' Q'; first | simp only [] | simp [-read_ptr, -decide_eq_true_eq, hwm, hlm, hlm2, i1, r1, i2, r2, hsame, f2])
              | (simp only [List.append_eq]; simp only [List.cons_append, List.nil_append])
              | (rw [doesD_cons]; simp [-read_ptr, -decide_eq_true_eq, hwm, hlm, hlm2, i1, r1, i2, r2, hsame, f2])
              | (rw [doesD_nil]; refine hQ' _ _ _ ?_; clear hQ' Q'; first | simp only [] | simp [-read_ptr, -decide_eq_true_eq, hwm, hlm, hlm2, i1, r1, i2, r2, hsame, f2])
              | refine does_seq hp ?_
              | (refine does_gen hp ?_; intro Q' hQ')
              | (refine doesD_gen (id := 30) hp [0, 1, 2, 3, 4, 5, 6, 7, 8, 9, 10, 11, 12] [] (by kernel_rfl) ?_; intro Q' hQ')
              | refine does_block hp ?_
              | (refine does_ret hp ?_; simp [-read_ptr, -decide_eq_true_eq, hwm, hlm, hlm2, i1, r1, i2, r2, hsame, f2])
              | (refine does_skip hp ?_; simp [-read_ptr, -decide_eq_true_eq, hwm, hlm, hlm2, i1, r1, i2, r2, hsame, f2])
              | (refine does_exit hp ?_; simp [-read_ptr, -decide_eq_true_eq, hwm, hlm, hlm2, i1, r1, i2, r2, hsame, f2])
              | (refine does_cond' hp ?_; simp [-read_ptr, -decide_eq_true_eq, hwm, hlm, hlm2, i1, r1, i2, r2, hsame, f2]; done)
              | (refine onW_split (fun hcnd => ?_) (fun hcnd => ?_) <;> simp only [hcnd] <;> (try simp [-List.isEmpty_iff, -List.isEmpty_eq_false_iff] at hcnd) <;> simp [-read_ptr, -decide_eq_true_eq, hwm, hlm, hlm2, i1, r1, i2, r2, hsame, f2])
              | (refine does_cond' hp ?_; simp [-read_ptr, -decide_eq_true_eq, hwm, hlm, hlm2, i1, r1, i2, r2, hsame, f2]; refine fork (fun hcnd => ?_) (fun hcnd => ?_) <;> (try simp only [hcnd]) <;> (try simp [-List.isEmpty_iff, -List.isEmpty_eq_false_iff] at hcnd))
              | (refine does_cond' hp ?_; simp [-read_ptr, -decide_eq_true_eq, hwm, hlm, hlm2, i1, r1, i2, r2, hsame, f2]))
            all_goals exact ⟨ex_get' rfl, trivial⟩
        · rintro fr hh ⟨j, rfl, rfl⟩
          have f1 : decide (i < 3) = true := by simp; omega
          simp only [f1]
          repeat' (first
            | (rw [doesO_cons]; simp [hwi])
            | (rw [doesO_nil']; refine hQ' _ _ _ ?_; clear hQ' Q'; first | simp only [] | simp [hwi])
            | (simp only [List.append_eq]; simp only [List.cons_append, List.nil_append])
            | (rw [doesD_cons]; simp [hwi])
            | (rw [doesD_nil]; refine hQ' _ _ _ ?_; clear hQ' Q'; first | simp only [] | simp [hwi])
            | refine does_seq hp ?_
            | (refine does_gen hp ?_; intro Q' hQ')
            | (refine doesD_gen (id := 30) hp [0, 1, 2, 3, 4, 5, 6, 7, 8, 9, 10, 11, 12] [] (by kernel_rfl) ?_; intro Q' hQ')
            | refine does_block hp ?_
            | (refine does_ret hp ?_; simp [hwi])
            | (refine does_skip hp ?_; simp [hwi])
            | (refine does_exit hp ?_; simp [hwi])
            | (refine does_cond' hp ?_; simp [hwi]; done)
            | (refine onW_split (fun hcnd => ?_) (fun hcnd => ?_) <;> simp only [hcnd] <;> (try simp [-List.isEmpty_iff, -List.isEmpty_eq_false_iff] at hcnd) <;> simp [hwi])
            | (refine does_cond' hp ?_; simp [hwi]; refine fork (fun hcnd => ?_) (fun hcnd => ?_) <;> (try simp only [hcnd]) <;> (try simp [-List.isEmpty_iff, -List.isEmpty_eq_false_iff] at hcnd))
            | (refine does_cond' hp ?_; simp [hwi]))
          all_goals exact ⟨ex_get' rfl, trivial⟩
      · rintro fr hh ⟨j, rfl, rfl⟩
        repeat' (first
          | (rw [doesO_cons]; simp [hN1])
          | (rw [doesO_nil']; refine hQ' _ _ _ ?_; clear hQ' Q'; first | simp only [] | simp [hN1])
          | (simp only [List.append_eq]; simp only [List.cons_append, List.nil_append])
          | (rw [doesD_cons]; simp [hN1])
          | (rw [doesD_nil]; refine hQ' _ _ _ ?_; clear hQ' Q'; first | simp only [] | simp [hN1])
          | refine does_seq hp ?_
          | (refine does_gen hp ?_; intro Q' hQ')
          | (refine doesD_gen (id := 30) hp [0, 1, 2, 3, 4, 5, 6, 7, 8, 9, 10, 11, 12] [] (by kernel_rfl) ?_; intro Q' hQ')
          | refine does_block hp ?_
          | (refine does_ret hp ?_; simp [hN1])
          | (refine does_skip hp ?_; simp [hN1])
          | (refine does_exit hp ?_; simp [hN1])
          | (refine does_cond' hp ?_; simp [hN1]; done)
          | (refine onW_split (fun hcnd => ?_) (fun hcnd => ?_) <;> simp only [hcnd] <;> (try simp [-List.isEmpty_iff, -List.isEmpty_eq_false_iff] at hcnd) <;> simp [hN1])
          | (refine does_cond' hp ?_; simp [hN1]; refine fork (fun hcnd => ?_) (fun hcnd => ?_) <;> (try simp only [hcnd]) <;> (try simp [-List.isEmpty_iff, -List.isEmpty_eq_false_iff] at hcnd))
          | (refine does_cond' hp ?_; simp [hN1]))
        all_goals exact ⟨0, 1, 1, hf1, by omega, s', .inr ⟨by omega, by omega, by omega, by omega, gr, fun e => Nat.not_le_of_lt hpn (ho1 p e)⟩, ex_get' rfl⟩
    by_cases hw2 : 2 ≤ w
    · have e1 := tick_wait ⟨hw2, by omega⟩ hf
      have hst : IntKind.i64.wrap (g - w + 1) = g - w + 1 := wrap_i64 (by omega) (by omega)
      have hd : decide (3 < g - w + 1) = false := by simp; omega
      have hd2 : ¬ 3 < g - w + 1 := by omega
      have hlen := len3 gs
      repeat' (first
        | (rw [doesO_cons]; simp [hlN, hlN2, e1, hlen, hst, hd, hd2, hN1])
        | (rw [doesO_nil']; refine hQ' _ _ _ ?_; clear hQ' Q'; first | simp only [] | simp [hlN, hlN2, e1, hlen, hst, hd, hd2, hN1])
        | (simp only [List.append_eq]; simp only [List.cons_append, List.nil_append])
        | (rw [doesD_cons]; simp [hlN, hlN2, e1, hlen, hst, hd, hd2, hN1])
        | (rw [doesD_nil]; refine hQ' _ _ _ ?_; clear hQ' Q'; first | simp only [] | simp [hlN, hlN2, e1, hlen, hst, hd, hd2, hN1])
        | refine does_seq hp ?_
        | (refine does_gen hp ?_; intro Q' hQ')
        | (refine doesD_gen (id := 30) hp [0, 1, 2, 3, 4, 5, 6, 7, 8, 9, 10, 11, 12] [] (by kernel_rfl) ?_; intro Q' hQ')
        | refine does_block hp ?_
        | (refine does_ret hp ?_; simp [hlN, hlN2, e1, hlen, hst, hd, hd2, hN1])
        | (refine does_skip hp ?_; simp [hlN, hlN2, e1, hlen, hst, hd, hd2, hN1])
        | (refine does_exit hp ?_; simp [hlN, hlN2, e1, hlen, hst, hd, hd2, hN1])
        | (refine does_cond' hp ?_; simp [hlN, hlN2, e1, hlen, hst, hd, hd2, hN1]; done)
        | (refine onW_split (fun hcnd => ?_) (fun hcnd => ?_) <;> simp only [hcnd] <;> (try simp [-List.isEmpty_iff, -List.isEmpty_eq_false_iff] at hcnd) <;> simp [hlN, hlN2, e1, hlen, hst, hd, hd2, hN1])
        | (refine does_cond' hp ?_; simp [hlN, hlN2, e1, hlen, hst, hd, hd2, hN1]; refine fork (fun hcnd => ?_) (fun hcnd => ?_) <;> (try simp only [hcnd]) <;> (try simp [-List.isEmpty_iff, -List.isEmpty_eq_false_iff] at hcnd))
        | (refine does_cond' hp ?_; simp [hlN, hlN2, e1, hlen, hst, hd, hd2, hN1]))
      all_goals exact ⟨g - w + 1, w - 1, g, by simp, by simpa using hpn, s, .inr ⟨by omega, by omega, by omega, by omega, gs.keep (by simp) (fun b hb => by rw [set_at, if_neg (fun (e : b = p) => hos (e ▸ hb))]), hos⟩, ex_get' rfl⟩
    · obtain ⟨g', hg'⟩ : ∃ g', (if (if 1 < 2 * g then 2 * g else 1) < 4 then if 1 < 2 * g then 2 * g else 1 else 4) = g' := ⟨_, rfl⟩
      have hgb : 1 ≤ g' ∧ g' ≤ 4 := by subst hg'; split <;> split <;> omega
      obtain ⟨r, e1, s', h', rfl, gr, hn1, hk1, hf1, ho1⟩ := tick_ask hpn (id := k) (by omega) hrow (by omega) (by omega) hf hg'
      have hlen := len3 gr
      have hlen2 := len3 gs
      have gs2 : Grown h' 10 (askM k 1 (u8 7 :: textB o.row)) s (List.range 3) := gs.keep hn1 fun b hb => hk1 b (owns_lt gs.1 hb) (fun e => hos (e ▸ hb))
      repeat' (first
        | (rw [doesO_cons]; simp [hlN, hlN2, e1, hlen, hlen2])
        | (rw [doesO_nil']; refine hQ' _ _ _ ?_; clear hQ' Q'; first | simp only [] | simp [hlN, hlN2, e1, hlen, hlen2])
        | (simp only [List.append_eq]; simp only [List.cons_append, List.nil_append])
        | (rw [doesD_cons]; simp [hlN, hlN2, e1, hlen, hlen2])
        | (rw [doesD_nil]; refine hQ' _ _ _ ?_; clear hQ' Q'; first | simp only [] | simp [hlN, hlN2, e1, hlen, hlen2])
        | refine does_seq hp ?_
        | (refine does_gen hp ?_; intro Q' hQ')
        | (refine doesD_gen (id := 30) hp [0, 1, 2, 3, 4, 5, 6, 7, 8, 9, 10, 11, 12] [] (by kernel_rfl) ?_; intro Q' hQ')
        | refine does_block hp ?_
        | (refine does_ret hp ?_; simp [hlN, hlN2, e1, hlen, hlen2])
        | (refine does_skip hp ?_; simp [hlN, hlN2, e1, hlen, hlen2])
        | (refine does_exit hp ?_; simp [hlN, hlN2, e1, hlen, hlen2])
        | (refine does_cond' hp ?_; simp [hlN, hlN2, e1, hlen, hlen2]; done)
        | (refine onW_split (fun hcnd => ?_) (fun hcnd => ?_) <;> simp only [hcnd] <;> (try simp [-List.isEmpty_iff, -List.isEmpty_eq_false_iff] at hcnd) <;> simp [hlN, hlN2, e1, hlen, hlen2])
        | (refine does_cond' hp ?_; simp [hlN, hlN2, e1, hlen, hlen2]; refine fork (fun hcnd => ?_) (fun hcnd => ?_) <;> (try simp only [hcnd]) <;> (try simp [-List.isEmpty_iff, -List.isEmpty_eq_false_iff] at hcnd))
        | (refine does_cond' hp ?_; simp [hlN, hlN2, e1, hlen, hlen2]))
      refine does_count hp 3 (fun i fr hh => ∃ j, fr = (j 0 :: j 1 :: j 2 :: j 3 :: j 4 :: j 5 :: j 6 :: j 7 :: (.one (.ptr p 0 0)) :: j 9 :: j 10 :: (.one (ii 0)) :: (.one s) :: (.one (ii (N - n))) :: (.one s') :: (.one (ii i)) :: j 16 :: j 17 :: j 18 :: j 19 :: j 20 :: j 21 :: j 22 :: j 23 :: j 24 :: j 25 :: j 26 :: j 27 :: j 28 :: j 29 :: j 30 :: j 31 :: j 32 :: j 33 :: j 34 :: j 35 :: j 36 :: j 37 :: j 38 :: j 39 :: j 40 :: j 41 :: j 42 :: j 43 :: j 44 :: j 45 :: j 46 :: j 47 :: j 48 :: j 49 :: j 50 :: j 51 :: j 52 :: j 53 :: j 54 :: j 55 :: j 56 :: j 57 :: j 58 :: j 59 :: j 60 :: j 61 :: j 62 :: j 63 :: j 64 :: j 65 :: j 66 :: j 67 :: j 68 :: j 69 :: j 70 :: j 71 :: j 72 :: j 73 :: j 74 :: j 75 :: j 76 :: j 77 :: j 78 :: j 79 :: j 80 :: j 81 :: j 82 :: j 83 :: j 84 :: j 85 :: j 86 :: []) ∧ h' = hh) ?_ ?_ _ _ (ex_get rfl rfl)
      · rintro i fr hh hi ⟨j, rfl, rfl⟩
        have hwi : IntKind.i64.wrap ((i : Int) + 1) = ((i : Int) + 1) := step_wrap (by omega)
        have hli : decide ((i : Int) < 3) = true := by simp; omega
        have hli2 : (i : Int) < 3 := by omega
        repeat' (first
          | (rw [doesO_cons]; simp [hwi, hli, hli2])
          | (rw [doesO_nil']; refine hQ' _ _ _ ?_; clear hQ' Q'; first | simp only [] | simp [hwi, hli, hli2])
          | (simp only [List.append_eq]; simp only [List.cons_append, List.nil_append])
          | (rw [doesD_cons]; simp [hwi, hli, hli2])
          | (rw [doesD_nil]; refine hQ' _ _ _ ?_; clear hQ' Q'; first | simp only [] | simp [hwi, hli, hli2])
          | refine does_seq hp ?_
          | (refine does_gen hp ?_; intro Q' hQ')
          | (refine doesD_gen (id := 30) hp [0, 1, 2, 3, 4, 5, 6, 7, 8, 9, 10, 11, 12] [] (by kernel_rfl) ?_; intro Q' hQ')
          | refine does_block hp ?_
          | (refine does_ret hp ?_; simp [hwi, hli, hli2])
          | (refine does_skip hp ?_; simp [hwi, hli, hli2])
          | (refine does_exit hp ?_; simp [hwi, hli, hli2])
          | (refine does_cond' hp ?_; simp [hwi, hli, hli2]; done)
          | (refine onW_split (fun hcnd => ?_) (fun hcnd => ?_) <;> simp only [hcnd] <;> (try simp [-List.isEmpty_iff, -List.isEmpty_eq_false_iff] at hcnd) <;> simp [hwi, hli, hli2])
          | (refine does_cond' hp ?_; simp [hwi, hli, hli2]; refine fork (fun hcnd => ?_) (fun hcnd => ?_) <;> (try simp only [hcnd]) <;> (try simp [-List.isEmpty_iff, -List.isEmpty_eq_false_iff] at hcnd))
          | (refine does_cond' hp ?_; simp [hwi, hli, hli2]))
        refine does_count hp 3 (fun m fr hh => ∃ j, fr = (j 0 :: j 1 :: j 2 :: j 3 :: j 4 :: j 5 :: j 6 :: j 7 :: (.one (.ptr p 0 0)) :: j 9 :: j 10 :: (.one (ii 0)) :: (.one s) :: (.one (ii (N - n))) :: (.one s') :: (.one (ii i)) :: (.one (.bool (decide (i < m)))) :: (.one (ii m)) :: j 18 :: j 19 :: j 20 :: j 21 :: j 22 :: j 23 :: j 24 :: j 25 :: j 26 :: j 27 :: j 28 :: j 29 :: j 30 :: j 31 :: j 32 :: j 33 :: j 34 :: j 35 :: j 36 :: j 37 :: j 38 :: j 39 :: j 40 :: j 41 :: j 42 :: j 43 :: j 44 :: j 45 :: j 46 :: j 47 :: j 48 :: j 49 :: j 50 :: j 51 :: j 52 :: j 53 :: j 54 :: j 55 :: j 56 :: j 57 :: j 58 :: j 59 :: j 60 :: j 61 :: j 62 :: j 63 :: j 64 :: j 65 :: j 66 :: j 67 :: j 68 :: j 69 :: j 70 :: j 71 :: j 72 :: j 73 :: j 74 :: j 75 :: j 76 :: j 77 :: j 78 :: j 79 :: j 80 :: j 81 :: j 82 :: j 83 :: j 84 :: j 85 :: j 86 :: []) ∧ h' = hh) ?_ ?_ _ _ (ex_get (by simp) rfl)
        · rintro m fr hh hm ⟨j, rfl, rfl⟩
          have hwm : IntKind.i64.wrap ((m : Int) + 1) = ((m : Int) + 1) := step_wrap (by omega)
          have hlm : decide ((m : Int) < 3) = true := by simp; omega
          have hlm2 : (m : Int) < 3 := by omega
          obtain ⟨b1, v1, i1, r1⟩ := elem3 gr hi
          obtain ⟨b2, v2, i2, r2⟩ := elem3 gs2 hm
          have hsame : ∀ h, W K 9 [.agg (askM k 1 (u8 7 :: textB o.row) i), .agg (askM k 1 (u8 7 :: textB o.row) m)] h = some (.ret (.one (.bool ((i : Int) == (m : Int)))) h) := fun h => same0_c 1 0 (100 + k) i 0 0 k 1 (some (u8 7 :: textB o.row)) m (some (u8 7 :: textB o.row)) rfl h
          rcases Nat.lt_trichotomy i m with hlt | hlt | hlt
          · have f1 : decide (i < m) = true := by simp; omega
            have f2 : decide (i < m + 1) = true := by simp; omega
            simp only [f1]
            repeat' (first
              | (rw [doesO_cons]; simp [-read_ptr, -decide_eq_true_eq, hwm, hlm, hlm2, i1, r1, i2, r2, hsame, f2])
              | (rw [doesO_nil']; refine hQ' _ _ _ ?_; clear hQ' Q'; first | simp only [] | simp [-read_ptr, -decide_eq_true_eq, hwm, hlm, hlm2, i1, r1, i2, r2, hsame, f2])
              | (simp only [List.append_eq]; simp only [List.cons_append, List.nil_append])
              | (rw [doesD_cons]; simp [-read_ptr, -decide_eq_true_eq, hwm, hlm, hlm2, i1, r1, i2, r2, hsame, f2])
              | (rw [doesD_nil]; refine hQ' _ _ _ ?_; clear hQ' Q'; first | simp only [] | simp [-read_ptr, -decide_eq_true_eq, hwm, hlm, hlm2, i1, r1, i2, r2, hsame, f2])
              | refine does_seq hp ?_
              | (refine does_gen hp ?_; intro Q' hQ')
              | (refine doesD_gen (id := 30) hp [0, 1, 2, 3, 4, 5, 6, 7, 8, 9, 10, 11, 12] [] (by kernel_rfl) ?_; intro Q' hQ')
              | refine does_block hp ?_
              | (refine does_ret hp ?_; simp [-read_ptr, -decide_eq_true_eq, hwm, hlm, hlm2, i1, r1, i2, r2, hsame, f2])
              | (refine does_skip hp ?_; simp [-read_ptr, -decide_eq_true_eq, hwm, hlm, hlm2, i1, r1, i2, r2, hsame, f2])
              | (refine does_exit hp ?_; simp [-read_ptr, -decide_eq_true_eq, hwm, hlm, hlm2, i1, r1, i2, r2, hsame, f2])
              | (refine does_cond' hp ?_; simp [-read_ptr, -decide_eq_true_eq, hwm, hlm, hlm2, i1, r1, i2, r2, hsame, f2]; done)
              | (refine onW_split (fun hcnd => ?_) (fun hcnd => ?_) <;> simp only [hcnd] <;> (try simp [-List.isEmpty_iff, -List.isEmpty_eq_false_iff] at hcnd) <;> simp [-read_ptr, -decide_eq_true_eq, hwm, hlm, hlm2, i1, r1, i2, r2, hsame, f2])
              | (refine does_cond' hp ?_; simp [-read_ptr, -decide_eq_true_eq, hwm, hlm, hlm2, i1, r1, i2, r2, hsame, f2]; refine fork (fun hcnd => ?_) (fun hcnd => ?_) <;> (try simp only [hcnd]) <;> (try simp [-List.isEmpty_iff, -List.isEmpty_eq_false_iff] at hcnd))
              | (refine does_cond' hp ?_; simp [-read_ptr, -decide_eq_true_eq, hwm, hlm, hlm2, i1, r1, i2, r2, hsame, f2]))
            all_goals exact ⟨ex_get' rfl, trivial⟩
          · have f1 : decide (i < m) = false := by simp; omega
            have f2 : decide (i < m + 1) = true := by simp; omega
            have f3 : ((i : Int) == (m : Int)) = true := by simp; omega
            rw [f3] at hsame
            simp only [f1]
            repeat' (first
              | (rw [doesO_cons]; simp [-read_ptr, -decide_eq_true_eq, hwm, hlm, hlm2, i1, r1, i2, r2, hsame, f2])
              | (rw [doesO_nil']; refine hQ' _ _ _ ?_; clear hQ' Q'; first | simp only [] | simp [-read_ptr, -decide_eq_true_eq, hwm, hlm, hlm2, i1, r1, i2, r2, hsame, f2])
              | (simp only [List.append_eq]; simp only [List.cons_append, List.nil_append])
              | (rw [doesD_cons]; simp [-read_ptr, -decide_eq_true_eq, hwm, hlm, hlm2, i1, r1, i2, r2, hsame, f2])
              | (rw [doesD_nil]; refine hQ' _ _ _ ?_; clear hQ' Q'; first | simp only [] | simp [-read_ptr, -decide_eq_true_eq, hwm, hlm, hlm2, i1, r1, i2, r2, hsame, f2])
              | refine does_seq hp ?_
              | (refine does_gen hp ?_; intro Q' hQ')
              | (refine doesD_gen (id := 30) hp [0, 1, 2, 3, 4, 5, 6, 7, 8, 9, 10, 11, 12] [] (by kernel_rfl) ?_; intro Q' hQ')
              | refine does_block hp ?_
              | (refine does_ret hp ?_; simp [-read_ptr, -decide_eq_true_eq, hwm, hlm, hlm2, i1, r1, i2, r2, hsame, f2])
              | (refine does_skip hp ?_; simp [-read_ptr, -decide_eq_true_eq, hwm, hlm, hlm2, i1, r1, i2, r2, hsame, f2])
              | (refine does_exit hp ?_; simp [-read_ptr, -decide_eq_true_eq, hwm, hlm, hlm2, i1, r1, i2, r2, hsame, f2])
              | (refine does_cond' hp ?_; simp [-read_ptr, -decide_eq_true_eq, hwm, hlm, hlm2, i1, r1, i2, r2, hsame, f2]; done)
              | (refine onW_split (fun hcnd => ?_) (fun hcnd => ?_) <;> simp only [hcnd] <;> (try simp [-List.isEmpty_iff, -List.isEmpty_eq_false_iff] at hcnd) <;> simp [-read_ptr, -decide_eq_true_eq, hwm, hlm, hlm2, i1, r1, i2, r2, hsame, f2])
              | (refine does_cond' hp ?_; simp [-read_ptr, -decide_eq_true_eq, hwm, hlm, hlm2, i1, r1, i2, r2, hsame, f2]; refine fork (fun hcnd => ?_) (fun hcnd => ?_) <;> (try simp only [hcnd]) <;> (try simp [-List.isEmpty_iff, -List.isEmpty_eq_false_iff] at hcnd))
              | (refine does_cond' hp ?_; simp [-read_ptr, -decide_eq_true_eq, hwm, hlm, hlm2, i1, r1, i2, r2, hsame, f2]))
            all_goals exact ⟨ex_get' rfl, trivial⟩
          · have f1 : decide (i < m) = false := by simp; omega
            have f2 : decide (i < m + 1) = false := by simp; omega
            have f3 : ((i : Int) == (m : Int)) = false := by simp; omega
            rw [f3] at hsame
            simp only [f1]
            repeat' (first
              | (rw [doesO_cons]; simp [-read_ptr, -decide_eq_true_eq, hwm, hlm, hlm2, i1, r1, i2, r2, hsame, f2])
              | (rw [doesO_nil']; refine hQ' _ _ _ ?_; clear hQ' Q'; first | simp only [] | simp [-read_ptr, -decide_eq_true_eq, hwm, hlm, hlm2, i1, r1, i2, r2, hsame, f2])
              | (simp only [List.append_eq]; simp only [List.cons_append, List.nil_append])
              | (rw [doesD_cons]; simp [-read_ptr, -decide_eq_true_eq, hwm, hlm, hlm2, i1, r1, i2, r2, hsame, f2])
              | (rw [doesD_nil]; refine hQ' _ _ _ ?_; clear hQ' Q'; first | simp only [] | simp [-read_ptr, -decide_eq_true_eq, hwm, hlm, hlm2, i1, r1, i2, r2, hsame, f2])
              | refine does_seq hp ?_
              | (refine does_gen hp ?_; intro Q' hQ')
              | (refine doesD_gen (id := 30) hp [0, 1, 2, 3, 4, 5, 6, 7, 8, 9, 10, 11, 12] [] (by kernel_rfl) ?_; intro Q' hQ')
              | refine does_block hp ?_
              | (refine does_ret hp ?_; simp [-read_ptr, -decide_eq_true_eq, hwm, hlm, hlm2, i1, r1, i2, r2, hsame, f2])
              | (refine does_skip hp ?_; simp [-read_ptr, -decide_eq_true_eq, hwm, hlm, hlm2, i1, r1, i2, r2, hsame, f2])
              | (refine does_exit hp ?_; simp [-read_ptr, -decide_eq_true_eq, hwm, hlm, hlm2, i1, r1, i2, r2, hsame, f2])
              | (refine does_cond' hp ?_; simp [-read_ptr, -decide_eq_true_eq, hwm, hlm, hlm2, i1, r1, i2, r2, hsame, f2]; done)
              | (refine onW_split (fun hcnd => ?_) (fun hcnd => ?_) <;> simp only [hcnd] <;> (try simp [-List.isEmpty_iff, -List.isEmpty_eq_false_iff] at hcnd) <;> simp [-read_ptr, -decide_eq_true_eq, hwm, hlm, hlm2, i1, r1, i2, r2, hsame, f2])
              | (refine does_cond' hp ?_; simp [-read_ptr, -decide_eq_true_eq, hwm, hlm, hlm2, i1, r1, i2, r2, hsame, f2]; refine fork (fun hcnd => ?_) (fun hcnd => ?_) <;> (try simp only [hcnd]) <;> (try simp [-List.isEmpty_iff, -List.isEmpty_eq_false_iff] at hcnd))
              | (refine does_cond' hp ?_; simp [-read_ptr, -decide_eq_true_eq, hwm, hlm, hlm2, i1, r1, i2, r2, hsame, f2]))
            all_goals exact ⟨ex_get' rfl, trivial⟩
        · rintro fr hh ⟨j, rfl, rfl⟩
          have f1 : decide (i < 3) = true := by simp; omega
          simp only [f1]
          repeat' (first
            | (rw [doesO_cons]; simp [hwi])
            | (rw [doesO_nil']; refine hQ' _ _ _ ?_; clear hQ' Q'; first | simp only [] | simp [hwi])
            | (simp only [List.append_eq]; simp only [List.cons_append, List.nil_append])
            | (rw [doesD_cons]; simp [hwi])
            | (rw [doesD_nil]; refine hQ' _ _ _ ?_; clear hQ' Q'; first | simp only [] | simp [hwi])
            | refine does_seq hp ?_
            | (refine does_gen hp ?_; intro Q' hQ')
            | (refine doesD_gen (id := 30) hp [0, 1, 2, 3, 4, 5, 6, 7, 8, 9, 10, 11, 12] [] (by kernel_rfl) ?_; intro Q' hQ')
            | refine does_block hp ?_
            | (refine does_ret hp ?_; simp [hwi])
            | (refine does_skip hp ?_; simp [hwi])
            | (refine does_exit hp ?_; simp [hwi])
            | (refine does_cond' hp ?_; simp [hwi]; done)
            | (refine onW_split (fun hcnd => ?_) (fun hcnd => ?_) <;> simp only [hcnd] <;> (try simp [-List.isEmpty_iff, -List.isEmpty_eq_false_iff] at hcnd) <;> simp [hwi])
            | (refine does_cond' hp ?_; simp [hwi]; refine fork (fun hcnd => ?_) (fun hcnd => ?_) <;> (try simp only [hcnd]) <;> (try simp [-List.isEmpty_iff, -List.isEmpty_eq_false_iff] at hcnd))
            | (refine does_cond' hp ?_; simp [hwi]))
          all_goals exact ⟨ex_get' rfl, trivial⟩
      · rintro fr hh ⟨j, rfl, rfl⟩
        repeat' (first
          | (rw [doesO_cons]; simp [hN1])
          | (rw [doesO_nil']; refine hQ' _ _ _ ?_; clear hQ' Q'; first | simp only [] | simp [hN1])
          | (simp only [List.append_eq]; simp only [List.cons_append, List.nil_append])
          | (rw [doesD_cons]; simp [hN1])
          | (rw [doesD_nil]; refine hQ' _ _ _ ?_; clear hQ' Q'; first | simp only [] | simp [hN1])
          | refine does_seq hp ?_
          | (refine does_gen hp ?_; intro Q' hQ')
          | (refine doesD_gen (id := 30) hp [0, 1, 2, 3, 4, 5, 6, 7, 8, 9, 10, 11, 12] [] (by kernel_rfl) ?_; intro Q' hQ')
          | refine does_block hp ?_
          | (refine does_ret hp ?_; simp [hN1])
          | (refine does_skip hp ?_; simp [hN1])
          | (refine does_exit hp ?_; simp [hN1])
          | (refine does_cond' hp ?_; simp [hN1]; done)
          | (refine onW_split (fun hcnd => ?_) (fun hcnd => ?_) <;> simp only [hcnd] <;> (try simp [-List.isEmpty_iff, -List.isEmpty_eq_false_iff] at hcnd) <;> simp [hN1])
          | (refine does_cond' hp ?_; simp [hN1]; refine fork (fun hcnd => ?_) (fun hcnd => ?_) <;> (try simp only [hcnd]) <;> (try simp [-List.isEmpty_iff, -List.isEmpty_eq_false_iff] at hcnd))
          | (refine does_cond' hp ?_; simp [hN1]))
        all_goals exact ⟨0, g', g', hf1, by omega, s, .inr ⟨by omega, by omega, by omega, by omega, gs2, hos⟩, ex_get' rfl⟩
  · rintro fr hh ⟨st, w, g, s, hf, hpn, hcase, j, rfl⟩
    obtain ⟨h2, hkn2⟩ := hkn hh
    have hbz := hbusy hf
    have hN0 : N - ((N.toNat : Nat) : Int) = 0 := by omega
    simp only [hN0]
    repeat' (first
      | (rw [doesO_cons]; simp [hkn2, hbz])
      | (rw [doesO_nil']; refine hQ' _ _ _ ?_; clear hQ' Q'; first | simp only [] | simp [hkn2, hbz])
      | (simp only [List.append_eq]; simp only [List.cons_append, List.nil_append])
      | (rw [doesD_cons]; simp [hkn2, hbz])
      | (rw [doesD_nil]; refine hQ' _ _ _ ?_; clear hQ' Q'; first | simp only [] | simp [hkn2, hbz])
      | refine does_seq hp ?_
      | (refine does_gen hp ?_; intro Q' hQ')
      | (refine doesD_gen (id := 30) hp [0, 1, 2, 3, 4, 5, 6, 7, 8, 9, 10, 11, 12] [] (by kernel_rfl) ?_; intro Q' hQ')
      | refine does_block hp ?_
      | (refine does_ret hp ?_; simp [hkn2, hbz])
      | (refine does_skip hp ?_; simp [hkn2, hbz])
      | (refine does_exit hp ?_; simp [hkn2, hbz])
      | (refine does_cond' hp ?_; simp [hkn2, hbz]; done)
      | (refine onW_split (fun hcnd => ?_) (fun hcnd => ?_) <;> simp only [hcnd] <;> (try simp [-List.isEmpty_iff, -List.isEmpty_eq_false_iff] at hcnd) <;> simp [hkn2, hbz])
      | (refine does_cond' hp ?_; simp [hkn2, hbz]; refine fork (fun hcnd => ?_) (fun hcnd => ?_) <;> (try simp only [hcnd]) <;> (try simp [-List.isEmpty_iff, -List.isEmpty_eq_false_iff] at hcnd))
      | (refine does_cond' hp ?_; simp [hkn2, hbz]))
    all_goals trace_state
end Go.Proofs.Ytmhbdpgflomihaa
