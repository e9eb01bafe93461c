/- A part of a proof over the abstract machine. No conditions. -/
import Derived.Test.YtmhbdpgflomihaaGreatR2
import Derived.Test.YtmhbdpgflomihaaGreatC15
import Derived.Test.YtmhbdpgflomihaaGreatC8
import Derived.Test.YtmhbdpgflomihaaGreatAb5
namespace Go.Proofs.YtmhbdpgflomihaaGreat
open Go Go.Ab Wm NumPlain
set_option linter.unusedSimpArgs false
set_option linter.unnecessarySimpa false
set_option linter.unusedVariables false
set_option maxRecDepth 10000
set_option maxHeartbeats 4000000
abbrev rdH (h : H) (o : Option BL) : H := ((h.new ⟨0, [1], true, [.bool false]⟩).new (rdB o)).new ⟨0, [1], true, [.ptr (h.next + 1) 0 0]⟩
theorem W_primK {f : Nat} {g : Prim} (hq : K.prim f = some g) (args : List AV) (h : H) : W K f args h = g (W K) args h := by
  rw [W_eq hp]; unfold callF; rw [hq]
theorem read_ret {h h' : H} {o l : Option BL} {g : Nat} {caps : List AS} {v : AV} (e : W K g (.one (.ptr (h.next + 1) 0 0) :: caps.map AV.one) (rdH h o) = some (.ret v h'))
    (k0 : h'.f h.next = some ⟨0, [1], true, [.bool false]⟩) (k1 : h'.f (h.next + 1) = some (rdB l)) (k2 : h'.f (h.next + 2) = some ⟨0, [1], true, [.ptr (h.next + 1) 0 0]⟩) :
    W K 68 [.one (bs o), .one (.fn g [] caps)] h = some (.ret (.one (.bool (decide ((ls l).length = 0)))) (h'.set h.next ⟨0, [1], true, [.bool (decide ((ls l).length = 0))]⟩)) := by
  rw [W_primK rfl]
  have hP : (confK0 S).P = Tryz.prog := rfl
  simp only [rdH] at e
  have hs := new_set ((h.new ⟨0, [1], true, [.bool false]⟩).new ⟨0, [1], true, [bs o]⟩) ⟨0, [1], true, [.nilptr]⟩ ⟨0, [1], true, [.ptr (h.next + 1) 0 0]⟩
  simp only [new_next] at hs
  have k2' : h'.f (h.next + 1 + 1) = _ := k2
  simp [bin, binI, ford, equalA, hP, readA, rgn, op1, runOps, runOp, runO, RdFn.of, cFst, cSnd, cOps, Tryz.f68, wantedA, readEnd, resultA, hs, e, k0, k1, k2']
  have hb : (((ls l).length : Int) == 0) = decide (ls l = []) := by cases ls l <;> simp <;> omega
  simp [hb]
theorem read_pan {h h' : H} {o : Option BL} {g : Nat} {caps : List AS} (e : W K g (.one (.ptr (h.next + 1) 0 0) :: caps.map AV.one) (rdH h o) = some (.pan (.ifc rT (.ptr (h.next + 1) 0 0)) h'))
    (k0 : h'.f h.next = some ⟨0, [1], true, [.bool false]⟩) (k2 : h'.f (h.next + 2) = some ⟨0, [1], true, [.ptr (h.next + 1) 0 0]⟩) :
    W K 68 [.one (bs o), .one (.fn g [] caps)] h = some (.ret (.one (.bool false)) (h'.set h.next ⟨0, [1], true, [.bool false]⟩)) := by
  rw [W_primK rfl]
  have hP : (confK0 S).P = Tryz.prog := rfl
  simp only [rdH] at e
  have hs := new_set ((h.new ⟨0, [1], true, [.bool false]⟩).new ⟨0, [1], true, [bs o]⟩) ⟨0, [1], true, [.nilptr]⟩ ⟨0, [1], true, [.ptr (h.next + 1) 0 0]⟩
  simp only [new_next] at hs
  have k2' : h'.f (h.next + 1 + 1) = _ := k2
  simp [bin, binI, ford, equalA, hP, readA, rgn, op1, runOps, runOp, runO, RdFn.of, cFst, cSnd, cOps, Tryz.f68, wantedA, readEnd, resultA, hs, e, k0, k2', RdFn.of]
def ansOk0 (a : Answer) : Bool := (inTo a.code 255 && (inTo a.group 255 && (inTo a.to 255 && inTo a.do_ 255))) && ((inTo a.gen 1073741824 && inTo a.old 1073741824) && (spanOk a.span && (decide (a.at_.length ≤ 16) && decide (lenB a.state ≤ 1048576))))
def ansB0 (a : Answer) : BL := u8 a.code :: 0 :: (encSpn a.span ++ (u8 a.group :: u8 a.to :: u8 a.do_ :: (num4 a.gen ++ (num4 a.old ++ (textB a.at_ ++ textB (ls a.state))))))
theorem containsNil_c (g : Nat) (caps : List AS) (hc : pureL false caps = true) (h : H) : W K 117 [.one .nilslc, .one (.fn g [] caps)] h = some (.ret (.one (.bool false)) h) := by
  have hi : ∀ h, W K 150 [.one .nilslc, .one (.fn g [] caps)] h = some (.ret (.one (ii (-1))) h) := by
    intro h
    have hown : memL S.own 150 = false := by kernel_rfl
    refine W_pure hp (by simp [pureV, hc, outV, frzV, frzS, frzS_pure, frzP, pureS, pureL, K_own, hown]) (apart_does rfl rfl (by kernel_rfl) Tryz.func150 rfl (by simp [Tryz.f150]) ?_)
    simp only [Tryz.f150]
    refine hide ?_; intro Q1 hQ1
    repeat' (first
      | (replace hQ1 := hQ1; simp [hc, outV, frzV, frzS, frzS_pure, frzP, pureS, pureL, K_own, hown])
      | refine hQ1 _ _ _ ?_
      | (first | apply cF | apply wN | apply wS) <;> intro hcnd <;> (try simp only [hcnd]) <;> (try simp [-List.isEmpty_iff, -List.isEmpty_eq_false_iff] at hcnd))
    refine does_count hp 0 (fun i fr hh => ∃ j, fr = ((.one .nilslc) :: j 1 :: j 2 :: j 3 :: j 4 :: j 5 :: j 6 :: (.one (ii 0)) :: (.one (ii 0)) :: j 9 :: j 10 :: j 11 :: j 12 :: j 13 :: j 14 :: j 15 :: j 16 :: j 17 :: j 18 :: []) ∧ True) ?_ ?_ _ _ (ex_get rfl (by simp))
    · intro i fr hh hi; omega
    · rintro fr hh ⟨j, rfl, h0⟩
      first | (refine hide ?_; intro Q2 hQ2) | have hQ2 := True.intro
      repeat' (first
        | (replace hQ2 := hQ2; simp [hc, outV, frzV, frzS, frzS_pure, frzP, pureS, pureL, K_own, hown])
        | (refine hQ2 _ _ _ ?_; clear hQ2 Q2; first | simp only [] | simp [hc, outV, frzV, frzS, frzS_pure, frzP, pureS, pureL, K_own, hown] | skip)
        | (refine hadQ (by assumption) ?_; (try clear hQ2); first | simp only [] | simp [hc, outV, frzV, frzS, frzS_pure, frzP, pureS, pureL, K_own, hown] | skip)
        | ((fail_if_success replace hQ2 := hQ2); (first | refine hide ?_ | refine hideS ?_ | refine hideB ?_); intro Q2 hQ2)
        | (first | apply cF | apply wN | apply wS) <;> intro hcnd <;> (try simp only [hcnd]) <;> (try simp [-List.isEmpty_iff, -List.isEmpty_eq_false_iff] at hcnd))
  have hown : memL S.own 117 = false := by kernel_rfl
  refine W_pure hp (by simp [pureV, hc, hi, outV, frzV, frzS, frzS_pure, frzP, pureS, pureL, K_own, hown]) (apart_does rfl rfl (by kernel_rfl) Tryz.func117 rfl (by simp [Tryz.f117]) ?_)
  simp only [Tryz.f117]
  refine hide ?_; intro Q3 hQ3
  repeat' (first
    | (replace hQ3 := hQ3; simp [hc, hi, outV, frzV, frzS, frzS_pure, frzP, pureS, pureL, K_own, hown])
    | refine hQ3 _ _ _ ?_)
theorem rightAns_c (code : Int) (lo hi : BL) (group gen old to do_ : Int) (at_ : BL) (state : Option BL) (hok : ansOk0 ⟨code, none, ⟨lo, hi⟩, group, gen, old, to, do_, at_, state⟩ = true) (h : H) :
    W K 83 [.agg [ii code, .nilslc, .str lo, .str hi, ii group, ii gen, ii old, ii to, ii do_, .str at_, bs state]] h = some (.ret (.one (.bool true)) h) := by
  have hcn := fun h => containsNil_c 118 [] rfl h
  have hsp := spanRight_c lo hi
  simp only [ansOk0, Bool.and_eq_true, decide_eq_true_eq] at hok
  obtain ⟨⟨o1, o2, o3, o4⟩, ⟨o5, o6⟩, o7, o8, o9⟩ := hok
  have o8' : decide (at_.length ≤ 16) = true := by simp [o8]
  have o9' : decide ((ls state).length ≤ 1048576) = true := by simp [o9]
  have hown : memL S.own 83 = false := by kernel_rfl
  refine W_pure hp (by simp [pureV, hcn, hsp, in_c, o1, o2, o3, o4, o5, o6, o7, o8, o9, o8', o9', outV, frzV, frzS, frzS_pure, frzP, pureS, pureL, K_own, hown]) (apart_does rfl rfl (by kernel_rfl) Tryz.func83 rfl (by simp [Tryz.f83]) ?_)
  simp only [Tryz.f83]
  refine hide ?_; intro Q4 hQ4
  repeat' (first
    | (replace hQ4 := hQ4; simp [hcn, hsp, in_c, o1, o2, o3, o4, o5, o6, o7, o8, o9, o8', o9', outV, frzV, frzS, frzS_pure, frzP, pureS, pureL, K_own, hown])
    | refine hQ4 _ _ _ ?_
    | (first | apply cF | apply wN | apply wS) <;> intro hcnd <;> (try simp only [hcnd]) <;> (try simp [-List.isEmpty_iff, -List.isEmpty_eq_false_iff] at hcnd))
theorem ws_kp {h0 h : H} {q0 : Option Nat} {p : Nat} {l : BL} {kept : List (Nat × Blk)} (w : WS h0 q0 h p l kept) : keptP h kept := by obtain ⟨q, _, _, hk, _⟩ := w; exact hk
theorem encAns_c (code : Int) (lo hi : BL) (group gen old to do_ : Int) (at_ : BL) (state : Option BL) (hok : ansOk0 ⟨code, none, ⟨lo, hi⟩, group, gen, old, to, do_, at_, state⟩ = true) (h : H) :
    W K 41 [.agg [ii code, .nilslc, .str lo, .str hi, ii group, ii gen, ii old, ii to, ii do_, .str at_, bs state]] h = some (.ret (.tup [(false, [bs (some (ansB0 ⟨code, none, ⟨lo, hi⟩, group, gen, old, to, do_, at_, state⟩))]), (false, [ii 0])]) h) := by
  have hx := rightAns_c code lo hi group gen old to do_ at_ state hok
  simp only [ansOk0, Bool.and_eq_true, decide_eq_true_eq, spanOk] at hok
  obtain ⟨⟨o1, o2, o3, o4⟩, ⟨o5, o6⟩, ⟨⟨o7, o7'⟩, _⟩, o8, o9⟩ := hok
  have hlo : lo.length ≤ 1048576 := by omega
  have hhi : hi.length ≤ 1048576 := by omega
  have hat : at_.length ≤ 1048576 := by omega
  have hk := True.intro
  have hl : (ansB0 ⟨code, none, ⟨lo, hi⟩, group, gen, old, to, do_, at_, state⟩).length ≤ 1099511627776 := by
    have : (ls state).length ≤ 1048576 := o9
    simp [ansB0, encSpn, textB, num4, be_length]; omega
  have ws := ws_new (H.empty.new ⟨0, [11], true, [ii code, .nilslc, .str lo, .str hi, ii group, ii gen, ii old, ii to, ii do_, .str at_, bs state]⟩) [(0, ⟨0, [11], true, [ii code, .nilslc, .str lo, .str hi, ii group, ii gen, ii old, ii to, ii do_, .str at_, bs state]⟩)] (by simp [keptP]) (by simp)
  simp only [new_next, empty_next, Nat.zero_add] at ws
  have hown : memL S.own 41 = false := by kernel_rfl
  refine W_pure hp (by simp [pureV, hx, new_c, convA, wrapB, outV, frzV, frzS, frzS_pure, frzP, pureS, pureL, K_own, hown]) (apart_does rfl rfl (by kernel_rfl) Tryz.func41 rfl (by simp [Tryz.f41]) ?_)
  simp only [Tryz.f41]
  refine hide ?_; intro Q13 hQ13
  repeat' (first
    | (replace hQ13 := hQ13; simp [hx, new_c, convA, wrapB, outV, frzV, frzS, frzS_pure, frzP, pureS, pureL, K_own, hown, hk])
    | refine hQ13 _ _ _ ?_
    | ((with_reducible refine call_id ?_); first
      | (refine call_writes (byte_w _) (by first | assumption | exact WS.new (by assumption) _ | exact WS.new (WS.new (by assumption) _) _) (by first | (simp only [List.length_append, List.length_cons, List.length_nil, be_length, textB, encSpn, num4, num8]; omega) | exact hl | omega | (simp only [List.length_append, List.length_cons, List.length_nil, be_length] at hl ⊢; omega) | (simp at hl ⊢; omega)) ?_; clear hk; intro h' ws' hk; (try simp only [keptP, and_true] at hk); (first | (have hk := hk; skip) | have hk := True.intro); (try simp [hx, new_c, convA, wrapB, outV, frzV, frzS, frzS_pure, frzP, pureS, pureL, K_own, hown, hk]))
      | (refine call_text (by first | assumption | omega) (by first | assumption | exact WS.new (by assumption) _ | exact WS.new (WS.new (by assumption) _) _) (by first | (simp only [List.length_append, List.length_cons, List.length_nil, be_length, textB, encSpn, num4, num8]; omega) | exact hl | omega | (simp only [List.length_append, List.length_cons, List.length_nil, be_length] at hl ⊢; omega) | (simp at hl ⊢; omega)) (by first | rfl | simp) ?_; clear hk; intro h' ws' hk; (try simp only [keptP, and_true] at hk); (first | (have hk := hk; skip) | have hk := True.intro); (try simp [hx, new_c, convA, wrapB, outV, frzV, frzS, frzS_pure, frzP, pureS, pureL, K_own, hown, hk])))
    | (rw [done_ws ws' (by first | omega | (simp only [List.length_append, List.length_cons, List.length_nil, be_length, textB, encSpn, num4, num8]; omega) | (simp only [List.length_append, List.length_cons, List.length_nil, be_length] at hl ⊢; omega) | (simp at hl ⊢; omega)) (by simp)]; simp [hx, new_c, convA, wrapB, outV, frzV, frzS, frzS_pure, frzP, pureS, pureL, K_own, hown, hk])
    | (first | apply cF | apply wN | apply wS) <;> intro hcnd <;> (try simp only [hcnd]) <;> (try simp [-List.isEmpty_iff, -List.isEmpty_eq_false_iff] at hcnd))
  obtain ⟨I, hI⟩ : ∃ I : Nat → Fr → H → Prop, I = fun i fr hh => WS ((H.empty.new ⟨0, [11], true, [ii code, .nilslc, .str lo, .str hi, ii group, ii gen, ii old, ii to, ii do_, .str at_, bs state]⟩).new ⟨0, [1], true, [.nilslc]⟩) none hh 1 [u8 code, 0] [(0, ⟨0, [11], true, [ii code, .nilslc, .str lo, .str hi, ii group, ii gen, ii old, ii to, ii do_, .str at_, bs state]⟩)] ∧ ∃ j : Nat → AV, fr = (j 0 :: (.one (.ptr 0 0 0)) :: j 2 :: j 3 :: (.one (.ptr 1 0 0)) :: j 5 :: j 6 :: j 7 :: j 8 :: j 9 :: j 10 :: j 11 :: j 12 :: j 13 :: j 14 :: j 15 :: j 16 :: j 17 :: j 18 :: j 19 :: j 20 :: j 21 :: j 22 :: j 23 :: (.one (ii 0)) :: (.one (ii 0)) :: j 26 :: j 27 :: j 28 :: j 29 :: j 30 :: j 31 :: j 32 :: j 33 :: j 34 :: j 35 :: j 36 :: j 37 :: j 38 :: j 39 :: j 40 :: j 41 :: j 42 :: j 43 :: j 44 :: j 45 :: j 46 :: j 47 :: j 48 :: j 49 :: j 50 :: j 51 :: j 52 :: j 53 :: j 54 :: j 55 :: j 56 :: j 57 :: j 58 :: j 59 :: j 60 :: j 61 :: j 62 :: j 63 :: j 64 :: j 65 :: j 66 :: j 67 :: j 68 :: j 69 :: j 70 :: j 71 :: j 72 :: j 73 :: j 74 :: j 75 :: j 76 :: []) := ⟨_, rfl⟩
  refine does_count hp 0 I ?_ ?_ _ _ (by rw [hI]; exact ⟨ws', ex_get' (by simp)⟩)
  · intro i fr hh hi; omega
  · intro fr hh hx2
    rw [hI] at hx2
    obtain ⟨ws', j, rfl⟩ := hx2
    have hk := ws_kp ws'
    simp only [keptP, and_true] at hk
    have hsp := spn_w lo hi hlo hhi
    clear hl
    have o9' : (ls state).length ≤ 1048576 := o9
    first | (refine hide ?_; intro Q14 hQ14) | have hQ14 := True.intro
    repeat' (first
      | (replace hQ14 := hQ14; simp [convA, wrapB, outV, frzV, frzS, frzS_pure, frzP, pureS, pureL, K_own, hown, ansB0, hk])
      | (refine hQ14 _ _ _ ?_; clear hQ14 Q14; first | simp only [] | simp [convA, wrapB, outV, frzV, frzS, frzS_pure, frzP, pureS, pureL, K_own, hown, ansB0, hk] | skip)
      | (refine hadQ (by assumption) ?_; (try clear hQ14); first | simp only [] | simp [convA, wrapB, outV, frzV, frzS, frzS_pure, frzP, pureS, pureL, K_own, hown, ansB0, hk] | skip)
      | ((fail_if_success replace hQ14 := hQ14); (first | refine hide ?_ | refine hideS ?_ | refine hideB ?_); intro Q14 hQ14)
      | ((with_reducible refine call_id ?_); first
        | (refine call_writes (byte_w _) (by first | assumption | exact WS.new (by assumption) _ | exact WS.new (WS.new (by assumption) _) _) (by first | (simp only [List.length_append, List.length_cons, List.length_nil, be_length, textB, encSpn, num4, num8]; omega) | exact hl | omega | (simp only [List.length_append, List.length_cons, List.length_nil, be_length] at hl ⊢; omega) | (simp at hl ⊢; omega)) ?_; clear hk; intro h' ws' hk; (try simp only [keptP, and_true] at hk); (first | (have hk := hk; skip) | have hk := True.intro); (try simp [convA, wrapB, outV, frzV, frzS, frzS_pure, frzP, pureS, pureL, K_own, hown, ansB0, hk]))
        | (refine call_writes (spn_w lo hi hlo hhi) (by first | assumption | exact WS.new (by assumption) _ | exact WS.new (WS.new (by assumption) _) _) (by first | (simp only [List.length_append, List.length_cons, List.length_nil, be_length, textB, encSpn, num4, num8]; omega) | exact hl | omega | (simp only [List.length_append, List.length_cons, List.length_nil, be_length] at hl ⊢; omega) | (simp at hl ⊢; omega)) ?_; clear hk; intro h' ws' hk; (try simp only [keptP, and_true] at hk); (first | (have hk := hk; skip) | have hk := True.intro); (try simp [convA, wrapB, outV, frzV, frzS, frzS_pure, frzP, pureS, pureL, K_own, hown, ansB0, hk]))
        | (refine call_writes (numI_w _) (by first | assumption | exact WS.new (by assumption) _ | exact WS.new (WS.new (by assumption) _) _) (by first | (simp only [List.length_append, List.length_cons, List.length_nil, be_length, textB, encSpn, num4, num8]; omega) | exact hl | omega | (simp only [List.length_append, List.length_cons, List.length_nil, be_length] at hl ⊢; omega) | (simp at hl ⊢; omega)) ?_; clear hk; intro h' ws' hk; (try simp only [keptP, and_true] at hk); (first | (have hk := hk; skip) | have hk := True.intro); (try simp [convA, wrapB, outV, frzV, frzS, frzS_pure, frzP, pureS, pureL, K_own, hown, ansB0, hk]))
        | (refine call_writes (strtext_w at_ hat) (by first | assumption | exact WS.new (by assumption) _ | exact WS.new (WS.new (by assumption) _) _) (by first | (simp only [List.length_append, List.length_cons, List.length_nil, be_length, textB, encSpn, num4, num8]; omega) | exact hl | omega | (simp only [List.length_append, List.length_cons, List.length_nil, be_length] at hl ⊢; omega) | (simp at hl ⊢; omega)) ?_; clear hk; intro h' ws' hk; (try simp only [keptP, and_true] at hk); (first | (have hk := hk; skip) | have hk := True.intro); (try simp [convA, wrapB, outV, frzV, frzS, frzS_pure, frzP, pureS, pureL, K_own, hown, ansB0, hk]))
        | (refine call_writes (text_w state o9) (by first | assumption | exact WS.new (by assumption) _ | exact WS.new (WS.new (by assumption) _) _) (by first | (simp only [List.length_append, List.length_cons, List.length_nil, be_length, textB, encSpn, num4, num8]; omega) | exact hl | omega | (simp only [List.length_append, List.length_cons, List.length_nil, be_length] at hl ⊢; omega) | (simp at hl ⊢; omega)) ?_; clear hk; intro h' ws' hk; (try simp only [keptP, and_true] at hk); (first | (have hk := hk; skip) | have hk := True.intro); (try simp [convA, wrapB, outV, frzV, frzS, frzS_pure, frzP, pureS, pureL, K_own, hown, ansB0, hk]))
        | (refine call_text (by first | assumption | omega) (by first | assumption | exact WS.new (by assumption) _ | exact WS.new (WS.new (by assumption) _) _) (by first | (simp only [List.length_append, List.length_cons, List.length_nil, be_length, textB, encSpn, num4, num8]; omega) | exact hl | omega | (simp only [List.length_append, List.length_cons, List.length_nil, be_length] at hl ⊢; omega) | (simp at hl ⊢; omega)) (by first | rfl | simp) ?_; clear hk; intro h' ws' hk; (try simp only [keptP, and_true] at hk); (first | (have hk := hk; skip) | have hk := True.intro); (try simp [convA, wrapB, outV, frzV, frzS, frzS_pure, frzP, pureS, pureL, K_own, hown, ansB0, hk])))
      | (rw [done_ws ws' (by first | omega | (simp only [List.length_append, List.length_cons, List.length_nil, be_length, textB, encSpn, num4, num8]; omega) | (simp only [List.length_append, List.length_cons, List.length_nil, be_length] at hl ⊢; omega) | (simp at hl ⊢; omega)) (by simp)]; simp [convA, wrapB, outV, frzV, frzS, frzS_pure, frzP, pureS, pureL, K_own, hown, ansB0, hk])
      | (first | apply cF | apply wN | apply wS) <;> intro hcnd <;> (try simp only [hcnd]) <;> (try simp [-List.isEmpty_iff, -List.isEmpty_eq_false_iff] at hcnd))
    all_goals trace_state
def spanP (l : BL) : Option (Span × BL) := (textP 16 l).bind fun x => (textP 16 x.2).bind fun y => if spanOk ⟨x.1, y.1⟩ then some (⟨x.1, y.1⟩, y.2) else none
theorem spanTake_r : Reads K rT 110 [] spanP (fun s => .agg (encSpan s)) := by
  have hsr := spanRight_c
  have hfl := fail_c
  intro h q o w
  have hk := True.intro
  refine W_doesQ hp rfl rfl rfl Tryz.func110 rfl (by simp [Tryz.f110]) ?_
  simp only [Tryz.f110]
  refine hide ?_; intro Q9 hQ9
  repeat' (first
    | (replace hQ9 := hQ9; simp [conv_bs, hsr, hfl, hk])
    | refine hQ9 _ _ _ ?_
    | ((with_reducible refine call_id ?_); first
      | (refine call_reads (text_r 16 (by omega)) (by first | assumption | exact RS.new (by assumption) _ | exact RS.set0 (by assumption) (by omega) _ | exact RS.set0 (RS.new (by assumption) _) (by omega) _ | exact RS.new (RS.new (by assumption) _) _ | exact RS.new (RS.set0 (by assumption) (by omega) _) _ | exact RS.set0 (RS.swap (by assumption)) (by omega) _ | exact RS.set0 (RS.swap (RS.set0 (by assumption) (by omega) _)) (by omega) _ | exact RS.set0 (RS.new (RS.new (by assumption) _) _) (by omega) _) (fun v l h' hpe ws' hk => ?_) (fun hpe h' o' ws' => ?_) <;> (have hnx := ws'.next) <;> (try simp only [ls_some] at hpe) <;> (try simp only [factsP, keptP, apart1, apartP, and_true, true_and] at hk) <;> (try simp [conv_bs, hsr, hfl, hk])))
    | (first | apply cF | apply wN | apply wS) <;> intro hcnd <;> (try simp only [hcnd]) <;> (try simp [-List.isEmpty_iff, -List.isEmpty_eq_false_iff] at hcnd))
  all_goals first | exact rd_no (by simp [spanP, *]) (by first | assumption | exact RS.new (by assumption) _ | exact RS.set0 (by assumption) (by omega) _ | exact RS.set0 (RS.new (by assumption) _) (by omega) _ | exact RS.new (RS.new (by assumption) _) _ | exact RS.new (RS.set0 (by assumption) (by omega) _) _ | exact RS.set0 (RS.swap (by assumption)) (by omega) _ | exact RS.set0 (RS.swap (RS.set0 (by assumption) (by omega) _)) (by omega) _ | exact RS.set0 (RS.new (RS.new (by assumption) _) _) (by omega) _) | (refine rd_ok2 (by first | assumption | exact RS.new (by assumption) _ | exact RS.set0 (by assumption) (by omega) _ | exact RS.set0 (RS.new (by assumption) _) (by omega) _ | exact RS.new (RS.new (by assumption) _) _ | exact RS.new (RS.set0 (by assumption) (by omega) _) _ | exact RS.set0 (RS.swap (by assumption)) (by omega) _ | exact RS.set0 (RS.swap (RS.set0 (by assumption) (by omega) _)) (by omega) _ | exact RS.set0 (RS.new (RS.new (by assumption) _) _) (by omega) _) (by simp [spanP, *]; first | exact ⟨rfl, rfl⟩ | rfl) ?_; rfl)
theorem cv_e (n : Int) (h : H) : convA Tryz.prog 5 26 (.int .u8 n) h = some (.val (.one (.int .i64 (IntKind.i64.wrap n))) h) := by simp [convA]
theorem cv_i (n : Int) (h : H) : convA Tryz.prog 5 3 (.int .u8 n) h = some (.val (.one (.int .i64 (IntKind.i64.wrap n))) h) := by simp [convA]
theorem cv_u (n : Int) (h : H) : convA Tryz.prog 111 3 (.int .u32 n) h = some (.val (.one (.int .i64 (IntKind.i64.wrap n))) h) := by simp [convA]
theorem takeAns_ok (code : UInt8) (lo hi : BL) (group to do_ : UInt8) (gen old : Nat) (at_ state l : BL) (hg : gen < 4294967296) (ho : old < 4294967296) (hok : ansOk0 ⟨code.toNat, none, ⟨lo, hi⟩, group.toNat, gen, old, to.toNat, do_.toNat, at_, some state⟩ = true) {h : H} {q : Nat}
    (w : RS h h q (some (code :: 0 :: (encSpn ⟨lo, hi⟩ ++ (group :: to :: do_ :: (be 4 gen ++ (be 4 old ++ (textB at_ ++ (textB state ++ l)))))))) []) :
    ∃ r, W K 70 [.one (.ptr q 0 0)] h = some r ∧ RdFin rT q h (fun a => .agg (encAnswer a)) (some (⟨code.toNat, none, ⟨lo, hi⟩, group.toNat, gen, old, to.toNat, do_.toNat, at_, some state⟩, l)) r := by
  have hra := rightAns_c code.toNat lo hi group.toNat gen old to.toNat do_.toNat at_ (some state) hok
  simp only [ansOk0, Bool.and_eq_true, decide_eq_true_eq] at hok
  obtain ⟨⟨o1, o2, o3, o4⟩, ⟨o5, o6⟩, o7, o8, o9⟩ := hok
  have o7' := o7
  simp only [spanOk, Bool.and_eq_true, decide_eq_true_eq] at o7'
  have p1 := byteP_cons code (0 :: (encSpn ⟨lo, hi⟩ ++ (group :: to :: do_ :: (be 4 gen ++ (be 4 old ++ (textB at_ ++ (textB state ++ l)))))))
  have p2 := byteP_cons 0 (encSpn ⟨lo, hi⟩ ++ (group :: to :: do_ :: (be 4 gen ++ (be 4 old ++ (textB at_ ++ (textB state ++ l))))))
  have p3 : spanP (encSpn ⟨lo, hi⟩ ++ (group :: to :: do_ :: (be 4 gen ++ (be 4 old ++ (textB at_ ++ (textB state ++ l)))))) = some (⟨lo, hi⟩, group :: to :: do_ :: (be 4 gen ++ (be 4 old ++ (textB at_ ++ (textB state ++ l))))) := by
    simp only [spanP, encSpn, List.append_assoc, textP_text o7'.1.1 (by omega), textP_text o7'.1.2 (by omega), Option.bind_some, o7, if_true]
  have p4 := byteP_cons group (to :: do_ :: (be 4 gen ++ (be 4 old ++ (textB at_ ++ (textB state ++ l)))))
  have p5 := byteP_cons to (do_ :: (be 4 gen ++ (be 4 old ++ (textB at_ ++ (textB state ++ l)))))
  have p6 := byteP_cons do_ (be 4 gen ++ (be 4 old ++ (textB at_ ++ (textB state ++ l))))
  have p7 := numP_be (k := 4) (n := gen) (by omega) (be 4 old ++ (textB at_ ++ (textB state ++ l)))
  have p8 := numP_be (k := 4) (n := old) (by omega) (textB at_ ++ (textB state ++ l))
  have p9 := textP_text (most := 16) o8 (by omega) (textB state ++ l)
  have p10 := textP_text (most := 1048576) (x := state) o9 (by omega) l
  have c1 : ∀ x : UInt8, IntKind.i64.wrap (x.toNat : Int) = x.toNat := fun x => wrap_i64 (by omega) (by have := x.toNat_lt; omega)
  have c2 : IntKind.i64.wrap (gen : Int) = gen := wrap_i64 (by omega) (by omega)
  have c3 : IntKind.i64.wrap (old : Int) = old := wrap_i64 (by omega) (by omega)
  have hk := True.intro
  refine W_doesQ hp rfl rfl rfl Tryz.func70 rfl (by simp [Tryz.f70]) ?_
  simp only [Tryz.f70, List.length_cons, List.length_nil, List.replicate, List.cons_append, List.nil_append, Nat.reduceAdd, Nat.reduceSub]
  first | (refine hide ?_; intro Q10 hQ10) | have hQ10 := True.intro
  repeat' (first
    | (replace hQ10 := hQ10; simp [cv_e, cv_i, cv_u, byteS, c1, c2, c3, hk])
    | (refine hQ10 _ _ _ ?_; clear hQ10 Q10; first | simp only [] | simp [cv_e, cv_i, cv_u, byteS, c1, c2, c3, hk] | skip)
    | (refine hadQ (by assumption) ?_; (try clear hQ10); first | simp only [] | simp [cv_e, cv_i, cv_u, byteS, c1, c2, c3, hk] | skip)
    | ((fail_if_success replace hQ10 := hQ10); (first | refine hide ?_ | refine hideS ?_ | refine hideB ?_); intro Q10 hQ10)
    | ((with_reducible refine call_id ?_); first
      | (refine call_ok (byte_r) (by first | assumption | exact RS.new (by assumption) _ | exact RS.set0 (by assumption) (by omega) _ | exact RS.set0 (RS.new (by assumption) _) (by omega) _ | exact RS.new (RS.new (by assumption) _) _ | exact RS.new (RS.set0 (by assumption) (by omega) _) _ | exact RS.set0 (RS.swap (by assumption)) (by omega) _ | exact RS.set0 (RS.swap (RS.set0 (by assumption) (by omega) _)) (by omega) _ | exact RS.set0 (RS.new (RS.new (by assumption) _) _) (by omega) _) (p1) (fun h' ws' hk => ?_) <;> (have hnx := ws'.next) <;> (try simp only [factsP, keptP, apart1, apartP, and_true, true_and] at hk) <;> (try simp [cv_e, cv_i, cv_u, byteS, c1, c2, c3, hk]))
      | (refine call_ok (byte_r) (by first | assumption | exact RS.new (by assumption) _ | exact RS.set0 (by assumption) (by omega) _ | exact RS.set0 (RS.new (by assumption) _) (by omega) _ | exact RS.new (RS.new (by assumption) _) _ | exact RS.new (RS.set0 (by assumption) (by omega) _) _ | exact RS.set0 (RS.swap (by assumption)) (by omega) _ | exact RS.set0 (RS.swap (RS.set0 (by assumption) (by omega) _)) (by omega) _ | exact RS.set0 (RS.new (RS.new (by assumption) _) _) (by omega) _) (p2) (fun h' ws' hk => ?_) <;> (have hnx := ws'.next) <;> (try simp only [factsP, keptP, apart1, apartP, and_true, true_and] at hk) <;> (try simp [cv_e, cv_i, cv_u, byteS, c1, c2, c3, hk])))
    | (first | apply cF | apply wN | apply wS) <;> intro hcnd <;> (try simp only [hcnd]) <;> (try simp [-List.isEmpty_iff, -List.isEmpty_eq_false_iff] at hcnd))
  obtain ⟨I, hI⟩ : ∃ I : Nat → Fr → H → Prop, I = fun i fr hh => ∃ b, RS h hh q (some (encSpn ⟨lo, hi⟩ ++ (group :: to :: do_ :: (be 4 gen ++ (be 4 old ++ (textB at_ ++ (textB state ++ l))))))) [(b, ⟨0, [11], true, [ii code.toNat, .nilslc, .str [], .str [], ii 0, ii 0, ii 0, ii 0, ii 0, .str [], .nilslc]⟩), (h.next, ⟨0, [11], true, [ii 0, .nilslc, .str [], .str [], ii 0, ii 0, ii 0, ii 0, ii 0, .str [], .nilslc]⟩)] ∧ h.next ≤ b ∧ ∃ j : Nat → AV, fr = ((.one (.ptr q 0 0)) :: j 1 :: (.one (.ptr h.next 0 0)) :: (.one (.ptr b 0 0)) :: (.one (.int .u8 0)) :: j 5 :: j 6 :: j 7 :: j 8 :: j 9 :: j 10 :: j 11 :: j 12 :: j 13 :: j 14 :: j 15 :: j 16 :: j 17 :: j 18 :: j 19 :: j 20 :: j 21 :: j 22 :: j 23 :: j 24 :: j 25 :: j 26 :: j 27 :: j 28 :: j 29 :: j 30 :: j 31 :: j 32 :: j 33 :: j 34 :: j 35 :: j 36 :: j 37 :: j 38 :: j 39 :: j 40 :: j 41 :: j 42 :: j 43 :: j 44 :: j 45 :: j 46 :: j 47 :: j 48 :: j 49 :: j 50 :: j 51 :: j 52 :: j 53 :: j 54 :: j 55 :: j 56 :: j 57 :: j 58 :: j 59 :: j 60 :: j 61 :: j 62 :: j 63 :: j 64 :: []) := ⟨_, rfl⟩
  refine does_count hp 0 I ?_ ?_ _ _ (by rw [hI]; exact ⟨_, ws', by omega, ex_get' (by simp)⟩)
  · intro i fr hh hi; omega
  · intro fr hh hx2
    rw [hI] at hx2
    obtain ⟨b, ws', hb, j, rfl⟩ := hx2
    have hnx := ws'.next
    have hk := ws'.facts
    simp only [factsP, keptP, apart1, apartP, and_true, true_and] at hk
    first | (refine hide ?_; intro Q11 hQ11) | have hQ11 := True.intro
    repeat' (first
      | (replace hQ11 := hQ11; simp [conv_bs, cv_e, cv_i, cv_u, byteS, c1, c2, c3, hra, encSpan, hk])
      | (refine hQ11 _ _ _ ?_; clear hQ11 Q11; first | simp only [] | simp [conv_bs, cv_e, cv_i, cv_u, byteS, c1, c2, c3, hra, encSpan, hk] | skip)
      | (refine hadQ (by assumption) ?_; (try clear hQ11); first | simp only [] | simp [conv_bs, cv_e, cv_i, cv_u, byteS, c1, c2, c3, hra, encSpan, hk] | skip)
      | ((fail_if_success replace hQ11 := hQ11); (first | refine hide ?_ | refine hideS ?_ | refine hideB ?_); intro Q11 hQ11)
      | ((with_reducible refine call_id ?_); first
        | (refine call_ok (spanTake_r) (by first | assumption | exact RS.new (by assumption) _ | exact RS.set0 (by assumption) (by omega) _ | exact RS.set0 (RS.new (by assumption) _) (by omega) _ | exact RS.new (RS.new (by assumption) _) _ | exact RS.new (RS.set0 (by assumption) (by omega) _) _ | exact RS.set0 (RS.swap (by assumption)) (by omega) _ | exact RS.set0 (RS.swap (RS.set0 (by assumption) (by omega) _)) (by omega) _ | exact RS.set0 (RS.new (RS.new (by assumption) _) _) (by omega) _) (p3) (fun h' ws' hk => ?_) <;> (have hnx := ws'.next) <;> (try simp only [factsP, keptP, apart1, apartP, and_true, true_and] at hk) <;> (try simp [conv_bs, cv_e, cv_i, cv_u, byteS, c1, c2, c3, hra, encSpan, hk]))
        | (refine call_ok (byte_r) (by first | assumption | exact RS.new (by assumption) _ | exact RS.set0 (by assumption) (by omega) _ | exact RS.set0 (RS.new (by assumption) _) (by omega) _ | exact RS.new (RS.new (by assumption) _) _ | exact RS.new (RS.set0 (by assumption) (by omega) _) _ | exact RS.set0 (RS.swap (by assumption)) (by omega) _ | exact RS.set0 (RS.swap (RS.set0 (by assumption) (by omega) _)) (by omega) _ | exact RS.set0 (RS.new (RS.new (by assumption) _) _) (by omega) _) (p4) (fun h' ws' hk => ?_) <;> (have hnx := ws'.next) <;> (try simp only [factsP, keptP, apart1, apartP, and_true, true_and] at hk) <;> (try simp [conv_bs, cv_e, cv_i, cv_u, byteS, c1, c2, c3, hra, encSpan, hk]))
        | (refine call_ok (byte_r) (by first | assumption | exact RS.new (by assumption) _ | exact RS.set0 (by assumption) (by omega) _ | exact RS.set0 (RS.new (by assumption) _) (by omega) _ | exact RS.new (RS.new (by assumption) _) _ | exact RS.new (RS.set0 (by assumption) (by omega) _) _ | exact RS.set0 (RS.swap (by assumption)) (by omega) _ | exact RS.set0 (RS.swap (RS.set0 (by assumption) (by omega) _)) (by omega) _ | exact RS.set0 (RS.new (RS.new (by assumption) _) _) (by omega) _) (p5) (fun h' ws' hk => ?_) <;> (have hnx := ws'.next) <;> (try simp only [factsP, keptP, apart1, apartP, and_true, true_and] at hk) <;> (try simp [conv_bs, cv_e, cv_i, cv_u, byteS, c1, c2, c3, hra, encSpan, hk]))
        | (refine call_ok (byte_r) (by first | assumption | exact RS.new (by assumption) _ | exact RS.set0 (by assumption) (by omega) _ | exact RS.set0 (RS.new (by assumption) _) (by omega) _ | exact RS.new (RS.new (by assumption) _) _ | exact RS.new (RS.set0 (by assumption) (by omega) _) _ | exact RS.set0 (RS.swap (by assumption)) (by omega) _ | exact RS.set0 (RS.swap (RS.set0 (by assumption) (by omega) _)) (by omega) _ | exact RS.set0 (RS.new (RS.new (by assumption) _) _) (by omega) _) (p6) (fun h' ws' hk => ?_) <;> (have hnx := ws'.next) <;> (try simp only [factsP, keptP, apart1, apartP, and_true, true_and] at hk) <;> (try simp [conv_bs, cv_e, cv_i, cv_u, byteS, c1, c2, c3, hra, encSpan, hk]))
        | (refine call_ok (num_r) (by first | assumption | exact RS.new (by assumption) _ | exact RS.set0 (by assumption) (by omega) _ | exact RS.set0 (RS.new (by assumption) _) (by omega) _ | exact RS.new (RS.new (by assumption) _) _ | exact RS.new (RS.set0 (by assumption) (by omega) _) _ | exact RS.set0 (RS.swap (by assumption)) (by omega) _ | exact RS.set0 (RS.swap (RS.set0 (by assumption) (by omega) _)) (by omega) _ | exact RS.set0 (RS.new (RS.new (by assumption) _) _) (by omega) _) (p7) (fun h' ws' hk => ?_) <;> (have hnx := ws'.next) <;> (try simp only [factsP, keptP, apart1, apartP, and_true, true_and] at hk) <;> (try simp [conv_bs, cv_e, cv_i, cv_u, byteS, c1, c2, c3, hra, encSpan, hk]))
        | (refine call_ok (num_r) (by first | assumption | exact RS.new (by assumption) _ | exact RS.set0 (by assumption) (by omega) _ | exact RS.set0 (RS.new (by assumption) _) (by omega) _ | exact RS.new (RS.new (by assumption) _) _ | exact RS.new (RS.set0 (by assumption) (by omega) _) _ | exact RS.set0 (RS.swap (by assumption)) (by omega) _ | exact RS.set0 (RS.swap (RS.set0 (by assumption) (by omega) _)) (by omega) _ | exact RS.set0 (RS.new (RS.new (by assumption) _) _) (by omega) _) (p8) (fun h' ws' hk => ?_) <;> (have hnx := ws'.next) <;> (try simp only [factsP, keptP, apart1, apartP, and_true, true_and] at hk) <;> (try simp [conv_bs, cv_e, cv_i, cv_u, byteS, c1, c2, c3, hra, encSpan, hk]))
        | (refine call_ok (text_r 16 (by omega)) (by first | assumption | exact RS.new (by assumption) _ | exact RS.set0 (by assumption) (by omega) _ | exact RS.set0 (RS.new (by assumption) _) (by omega) _ | exact RS.new (RS.new (by assumption) _) _ | exact RS.new (RS.set0 (by assumption) (by omega) _) _ | exact RS.set0 (RS.swap (by assumption)) (by omega) _ | exact RS.set0 (RS.swap (RS.set0 (by assumption) (by omega) _)) (by omega) _ | exact RS.set0 (RS.new (RS.new (by assumption) _) _) (by omega) _) (p9) (fun h' ws' hk => ?_) <;> (have hnx := ws'.next) <;> (try simp only [factsP, keptP, apart1, apartP, and_true, true_and] at hk) <;> (try simp [conv_bs, cv_e, cv_i, cv_u, byteS, c1, c2, c3, hra, encSpan, hk]))
        | (refine call_ok (text_r 1048576 (by omega)) (by first | assumption | exact RS.new (by assumption) _ | exact RS.set0 (by assumption) (by omega) _ | exact RS.set0 (RS.new (by assumption) _) (by omega) _ | exact RS.new (RS.new (by assumption) _) _ | exact RS.new (RS.set0 (by assumption) (by omega) _) _ | exact RS.set0 (RS.swap (by assumption)) (by omega) _ | exact RS.set0 (RS.swap (RS.set0 (by assumption) (by omega) _)) (by omega) _ | exact RS.set0 (RS.new (RS.new (by assumption) _) _) (by omega) _) (p10) (fun h' ws' hk => ?_) <;> (have hnx := ws'.next) <;> (try simp only [factsP, keptP, apart1, apartP, and_true, true_and] at hk) <;> (try simp [conv_bs, cv_e, cv_i, cv_u, byteS, c1, c2, c3, hra, encSpan, hk])))
      | (first | apply cF | apply wN | apply wS) <;> intro hcnd <;> (try simp only [hcnd]) <;> (try simp [-List.isEmpty_iff, -List.isEmpty_eq_false_iff] at hcnd))
    all_goals exact rd_ok2 (by first | assumption | exact RS.new (by assumption) _ | exact RS.set0 (by assumption) (by omega) _ | exact RS.set0 (RS.new (by assumption) _) (by omega) _ | exact RS.new (RS.new (by assumption) _) _ | exact RS.new (RS.set0 (by assumption) (by omega) _) _ | exact RS.set0 (RS.swap (by assumption)) (by omega) _ | exact RS.set0 (RS.swap (RS.set0 (by assumption) (by omega) _)) (by omega) _ | exact RS.set0 (RS.new (RS.new (by assumption) _) _) (by omega) _) rfl rfl
abbrev zA : List AS := [ii 0, .nilslc, .str [], .str [], ii 0, ii 0, ii 0, ii 0, ii 0, .str [], .nilslc]
abbrev hA : H := (H.empty.new ⟨0, [11], true, zA⟩).new ⟨0, [11], true, zA⟩
theorem rdA_start (o : Option BL) (ho : (ls o).length ≤ 1099511627776) : RS (rdH hA o) (rdH hA o) 3 o [] := RS.start (by simp) (by simp) ho
theorem decAns_ok (code : UInt8) (lo hi : BL) (group to do_ : UInt8) (gen old : Nat) (at_ state : BL) (hg : gen < 4294967296) (ho : old < 4294967296) (hok : ansOk0 ⟨code.toNat, none, ⟨lo, hi⟩, group.toNat, gen, old, to.toNat, do_.toNat, at_, some state⟩ = true) (h : H) :
    W K 35 [.one (bs (some (code :: 0 :: (encSpn ⟨lo, hi⟩ ++ (group :: to :: do_ :: (be 4 gen ++ (be 4 old ++ (textB at_ ++ textB state))))))))] h = some (.ret (.tup [(true, encAnswer ⟨code.toNat, none, ⟨lo, hi⟩, group.toNat, gen, old, to.toNat, do_.toNat, at_, some state⟩), (false, [ii 0])]) h) := by
  have hBl : (code :: 0 :: (encSpn ⟨lo, hi⟩ ++ (group :: to :: do_ :: (be 4 gen ++ (be 4 old ++ (textB at_ ++ textB state)))))).length ≤ 1099511627776 := by
    simp only [ansOk0, spanOk, Bool.and_eq_true, decide_eq_true_eq] at hok
    obtain ⟨_, _, ⟨⟨o1, o2⟩, _⟩, o3, o4⟩ := hok
    have o5 : state.length ≤ 1048576 := o4
    simp [encSpn, textB, be_length]; omega
  obtain ⟨r, e, hx⟩ := takeAns_ok code lo hi group to do_ gen old at_ state [] hg ho hok (by rw [List.append_nil]; exact rdA_start _ hBl)
  generalize hB : code :: 0 :: (encSpn ⟨lo, hi⟩ ++ (group :: to :: do_ :: (be 4 gen ++ (be 4 old ++ (textB at_ ++ textB state))))) = B at *
  have hB2 : code :: 0 :: (encSpn ⟨lo, hi⟩ ++ (group :: to :: do_ :: (be 4 gen ++ (be 4 old ++ (textB at_ ++ (textB state ++ [])))))) = B := by rw [List.append_nil]; exact hB
  obtain ⟨h', rfl, w'⟩ := hx
  generalize hA' : (⟨code.toNat, none, ⟨lo, hi⟩, group.toNat, gen, old, to.toNat, do_.toNat, at_, some state⟩ : Answer) = A at *
  have f0 : h'.f 0 = some ⟨0, [11], true, zA⟩ := by rw [w'.same 0 (by simp) (by omega)]; simp
  have f1 : h'.f 1 = some ⟨0, [11], true, zA⟩ := by rw [w'.same 1 (by simp) (by omega)]; simp
  have f2 : h'.f 2 = some ⟨0, [1], true, [.bool false]⟩ := by rw [w'.same 2 (by simp) (by omega)]; simp
  have f4 : h'.f 4 = some ⟨0, [1], true, [.ptr 3 0 0]⟩ := by rw [w'.same 4 (by simp) (by omega)]; simp
  have hlA : (encAnswer A).length = 11 := rfl
  simp only [] at e
  have hc : W K 69 [.one (.ptr 3 0 0), .one (.ptr 1 0 0)] (rdH hA (some B)) = some (.ret (.tup []) (h'.set 1 ⟨0, [11], true, encAnswer A⟩)) := by
    generalize rdH hA (some B) = H0 at *
    refine W_does hp rfl rfl rfl Tryz.func69 rfl (by simp [Tryz.f69]) ?_
    simp only [Tryz.f69]
    refine hide ?_; intro Q5 hQ5
    repeat' (first
      | (replace hQ5 := hQ5; simp [-lay, lay_full, e, f1, hlA])
      | refine hQ5 _ _ _ ?_)
  have hr := read_ret (h := hA) (o := some B) (g := 69) (caps := [.ptr 1 0 0]) hc (l := some []) (by simp [f2]) (by simpa using w'.rd) (by simpa using f4)
  have hpA : pureL false (encAnswer A) = true := by rw [← hA']; simp [encAnswer, pureL, pureS, sl, cat]
  have hsA : sub (encAnswer A) 0 11 = some (encAnswer A) := sub_all hlA
  have hm : ∀ hx, (encAnswer A).mapM (frzS false hx 64) = some (encAnswer A) := fun hx => mapM_pure (n := 63) hpA
  have hown : memL S.own 35 = false := by kernel_rfl
  refine W_pure hp (by simp [pureV, -lay, lay_full, hr, f0, f1, hlA, hpA, hsA, hm, outV, frzV, frzS, frzS_pure, frzP, pureS, pureL, K_own, hown]) (apart_does rfl rfl (by kernel_rfl) Tryz.func35 rfl (by simp [Tryz.f35]) ?_)
  simp only [Tryz.f35]
  refine hide ?_; intro Q6 hQ6
  repeat' (first
    | (replace hQ6 := hQ6; simp [-lay, lay_full, hr, f0, f1, hlA, hpA, hsA, hm, outV, frzV, frzS, frzS_pure, frzP, pureS, pureL, K_own, hown])
    | refine hQ6 _ _ _ ?_
    | (first | apply cF | apply wN | apply wS) <;> intro hcnd <;> (try simp only [hcnd]) <;> (try simp [-List.isEmpty_iff, -List.isEmpty_eq_false_iff] at hcnd))
theorem takeAns_bad {h : H} {q : Nat} (w : RS h h q (some [1]) []) : ∃ r, W K 70 [.one (.ptr q 0 0)] h = some r ∧ RdFin rT q h (fun a => .agg (encAnswer a)) none r := by
  have c1 : ∀ x : UInt8, IntKind.i64.wrap (x.toNat : Int) = x.toNat := fun x => wrap_i64 (by omega) (by have := x.toNat_lt; omega)
  have hk := True.intro
  refine W_doesQ hp rfl rfl rfl Tryz.func70 rfl (by simp [Tryz.f70]) ?_
  simp only [Tryz.f70, List.length_cons, List.length_nil, List.replicate, List.cons_append, List.nil_append, Nat.reduceAdd, Nat.reduceSub]
  first | (refine hide ?_; intro Q12 hQ12) | have hQ12 := True.intro
  repeat' (first
    | (replace hQ12 := hQ12; simp [cv_e, cv_i, cv_u, byteS, c1, hk])
    | (refine hQ12 _ _ _ ?_; clear hQ12 Q12; first | simp only [] | simp [cv_e, cv_i, cv_u, byteS, c1, hk] | skip)
    | (refine hadQ (by assumption) ?_; (try clear hQ12); first | simp only [] | simp [cv_e, cv_i, cv_u, byteS, c1, hk] | skip)
    | ((fail_if_success replace hQ12 := hQ12); (first | refine hide ?_ | refine hideS ?_ | refine hideB ?_); intro Q12 hQ12)
    | ((with_reducible refine call_id ?_); first
      | (refine call_ok (byte_r) (by first | assumption | exact RS.new (by assumption) _ | exact RS.set0 (by assumption) (by omega) _ | exact RS.set0 (RS.new (by assumption) _) (by omega) _ | exact RS.new (RS.new (by assumption) _) _ | exact RS.new (RS.set0 (by assumption) (by omega) _) _ | exact RS.set0 (RS.swap (by assumption)) (by omega) _ | exact RS.set0 (RS.swap (RS.set0 (by assumption) (by omega) _)) (by omega) _ | exact RS.set0 (RS.new (RS.new (by assumption) _) _) (by omega) _) (byteP_cons 1 []) (fun h' ws' hk => ?_) <;> (have hnx := ws'.next) <;> (try simp only [factsP, keptP, apart1, apartP, and_true, true_and] at hk) <;> (try simp [cv_e, cv_i, cv_u, byteS, c1, hk]))
      | (refine call_reads (byte_r) (by first | assumption | exact RS.new (by assumption) _ | exact RS.set0 (by assumption) (by omega) _ | exact RS.set0 (RS.new (by assumption) _) (by omega) _ | exact RS.new (RS.new (by assumption) _) _ | exact RS.new (RS.set0 (by assumption) (by omega) _) _ | exact RS.set0 (RS.swap (by assumption)) (by omega) _ | exact RS.set0 (RS.swap (RS.set0 (by assumption) (by omega) _)) (by omega) _ | exact RS.set0 (RS.new (RS.new (by assumption) _) _) (by omega) _) (fun v l h' hpe ws' hk => ?_) (fun hpe h' o' ws' => ?_) <;> (have hnx := ws'.next) <;> (try simp only [ls_some] at hpe) <;> (try simp only [factsP, keptP, apart1, apartP, and_true, true_and] at hk) <;> (try simp [cv_e, cv_i, cv_u, byteS, c1, hk])))
    | (first | apply cF | apply wN | apply wS) <;> intro hcnd <;> (try simp only [hcnd]) <;> (try simp [-List.isEmpty_iff, -List.isEmpty_eq_false_iff] at hcnd))
  all_goals first | (exfalso; simp [byteP] at hpe; done) | exact rd_no rfl (by first | assumption | exact RS.new (by assumption) _ | exact RS.set0 (by assumption) (by omega) _ | exact RS.set0 (RS.new (by assumption) _) (by omega) _ | exact RS.new (RS.new (by assumption) _) _ | exact RS.new (RS.set0 (by assumption) (by omega) _) _ | exact RS.set0 (RS.swap (by assumption)) (by omega) _ | exact RS.set0 (RS.swap (RS.set0 (by assumption) (by omega) _)) (by omega) _ | exact RS.set0 (RS.new (RS.new (by assumption) _) _) (by omega) _) | trace_state
end Go.Proofs.YtmhbdpgflomihaaGreat
