/- A part of a proof over the abstract machine. No conditions. -/
import Derived.Test.YtmhbdpgflomihaaGreatL2
import Derived.Test.YtmhbdpgflomihaaGreatK1
import Derived.Test.YtmhbdpgflomihaaGreatAb3
namespace Go.Proofs.YtmhbdpgflomihaaGreat
open Go Go.Ab Wm NumPlain
set_option linter.unusedSimpArgs false
set_option linter.unnecessarySimpa false
set_option linter.unusedVariables false
set_option maxRecDepth 10000
set_option maxHeartbeats 4000000
def encB (b : Bool) : List AS := [.bool b]
theorem len_b (b : Bool) : (encB b).length = 1 := rfl
def upTo (n i : Nat) : List Bool := (List.range n).map fun k => decide (k < i)
theorem upTo_len (n i : Nat) : (upTo n i).length = n := by simp [upTo]
theorem upTo_zero (n : Nat) : cat encB (upTo n 0) = repL [.bool false] n := by
  unfold upTo
  induction n with
  | zero => rfl
  | succ n ih =>
    rw [List.range_succ, List.map_append, cat_app, ih]
    have : ∀ m, repL [AS.bool false] m ++ [AS.bool false] = repL [AS.bool false] (m + 1) := by
      intro m
      induction m with
      | zero => rfl
      | succ m ih2 => show [AS.bool false] ++ repL [AS.bool false] m ++ [AS.bool false] = [AS.bool false] ++ repL [AS.bool false] (m + 1); rw [List.append_assoc, ih2]
    exact this n
theorem upTo_set (n i : Nat) (hi : i < n) : (upTo n i).set i true = upTo n (i + 1) := by
  apply List.ext_getElem
  · simp [upTo]
  · intro k h1 h2
    simp only [upTo, List.getElem_set, List.getElem_map, List.getElem_range] at *
    split
    · rename_i e; subst e; simp
    · rename_i e
      rw [decide_eq_decide]; omega
theorem asks_g (g id seq : Int) (b : Option BL) (B : BL) (hb : b = some B) (hB : B.length ≤ 1000000) (n : Nat) (hn : 1 ≤ n ∧ n ≤ 5) (hid : 0 ≤ id ∧ id < 4) (cmd : List AS) (hcl : cmd.length = 19) (hcp : pureL false cmd = true) (hb2 : ∀ h, W K 31 [.agg cmd] h = some (.ret (.one (bs (some B))) h)) :
    Fun K 12 [.one (sl 10 (askG g id seq b) (some (List.range n))), .one (ii g), .one (ii n), .one (ii id), .one (ii seq), .agg cmd] (fun h => .ret (.one (.bool true)) h) := by
  subst hb
  have hpa : ∀ t, pureL false (askG g id seq (some B) t) = true := fun t => by simp [askG, pureL, pureS]
  have hps : pureS false (sl 10 (askG g id seq (some B)) (some (List.range n))) = true := pureS_sl hpa _
  have hw : IntKind.i64.wrap (100 + id) = 100 + id := wrap_i64 (by omega) (by omega)
  have hsub : sub cmd 0 19 = some cmd := sub_all hcl
  have hlen : lenS (sl 10 (askG g id seq (some B)) (some (List.range n))) = some n := by rw [lenS_sl]; simp
  have hlim : n + n ≤ limit := by simp only [limit]; omega
  have hlim2 : n ≤ limit := by simp only [limit]; omega
  have hnn : (0 : Int) ≤ n := by omega
  have hown : memL S.own 12 = false := by kernel_rfl
  refine ⟨by simp [pureV, hcp, hps, hb2, hsub, hcl, hnn, hlim, hlim2, -repL, outV, frzV, frzS, frzS_pure, frzP, pureS, pureL, K_own, hown], fun hh => apart_does rfl rfl (by kernel_rfl) Tryz.func12 rfl (by simp [Tryz.f12]) ?_⟩
  simp only [Tryz.f12]
  refine hide ?_; intro Q1 hQ1
  repeat' (first
    | (replace hQ1 := hQ1; simp [hcp, hps, hb2, hsub, hcl, hnn, hlim, hlim2, -repL, outV, frzV, frzS, frzS_pure, frzP, pureS, pureL, K_own, hown])
    | refine hQ1 _ _ _ ?_
    | (first | apply cF | apply wN | apply wS) <;> intro hcnd <;> (try simp only [hcnd]) <;> (try simp [-List.isEmpty_iff, -List.isEmpty_eq_false_iff] at hcnd))
  obtain ⟨I, hI⟩ : ∃ I : Nat → Fr → H → Prop, I = fun i fr hh => Arr hh encB 1 0 (upTo n i) [] ∧ 2 ≤ hh.next ∧ ∃ j : Nat → AV, fr = ((.one (sl 10 (askG g id seq (some B)) (some (List.range n)))) :: (.one (ii g)) :: (.one (ii n)) :: (.one (ii id)) :: (.one (ii seq)) :: j 5 :: j 6 :: j 7 :: j 8 :: j 9 :: j 10 :: j 11 :: j 12 :: (.one (bs (some B))) :: (.one (.slc 1 0 0 n 1 none)) :: (.one (ii i)) :: j 16 :: j 17 :: j 18 :: j 19 :: j 20 :: j 21 :: j 22 :: j 23 :: j 24 :: j 25 :: j 26 :: j 27 :: j 28 :: j 29 :: j 30 :: j 31 :: j 32 :: j 33 :: j 34 :: j 35 :: j 36 :: j 37 :: j 38 :: j 39 :: j 40 :: j 41 :: j 42 :: j 43 :: j 44 :: j 45 :: j 46 :: j 47 :: j 48 :: j 49 :: j 50 :: j 51 :: j 52 :: j 53 :: j 54 :: j 55 :: j 56 :: j 57 :: j 58 :: j 59 :: j 60 :: j 61 :: j 62 :: j 63 :: j 64 :: j 65 :: j 66 :: j 67 :: []) := ⟨_, rfl⟩
  refine does_count hp n I ?_ ?_ _ _ (by
    rw [hI]
    refine ⟨⟨by simp, true, [], ?_⟩, by simp, ex_get' (by simp)⟩
    rw [List.append_nil, upTo_zero]
    simp)
  · intro i fr hh hi hx
    rw [hI] at hx
    obtain ⟨ar, hn2, j, rfl⟩ := hx
    have hwi : IntKind.i64.wrap ((i : Int) + 1) = (i : Int) + 1 := step_wrap (by omega)
    have hlt : decide ((i : Int) < n) = true := by simp; omega
    have hlt2 : (i : Int) < n := by omega
    have hlt3 : ¬ (n : Int) ≤ i := by omega
    have hlt4 : decide ((n : Int) ≤ i) = false := by simp; omega
    have hlt5 : decide ((i : Int) < 0) = false := by simp
    have hlt6 : ¬ (i : Int) < 0 := by omega
    have hix := index_sl (P := Tryz.prog) (enc := askG g id seq (some B)) (s := 10) (l := List.range n) (i := i) Tryz.underlying52 (by simp) (by omega) (by simpa using hi)
    have hrd : sub (cat (askG g id seq (some B)) (List.range n)) (i * 10) 10 = some (askG g id seq (some B) i) := by
      have h1 : i < (List.range n).length := by simpa using hi
      have h2 := sub_flat (len_askG g id seq (some B)) ((List.range n).take i) ((List.range n)[i]) ((List.range n).drop (i + 1)) (o := 0) (n := 10) (by omega)
      rw [← split_at h1, List.length_take, Nat.min_eq_left (by omega), Nat.add_zero, List.getElem_range] at h2
      rw [h2]; exact sub_all (len_askG _ _ _ _ _)
    have hsame : ∀ h, W K 32 [.agg (askG g id seq (some B) i), .agg (askG g id seq (some B) i)] h = some (.ret (.one (.bool true)) h) := fun h => by
      have := same0_c 1 g (100 + id) i 0 0 id seq (some B) i (some B) rfl h
      rw [show ((i : Int) == (i : Int)) = true by simp] at this
      exact this
    have hne : ¬ 1 = hh.next := by omega
    have hne2 : ¬ hh.next = 1 := by omega
    have ar1 := ar.new ⟨0, [10], true, askG g id seq (some B) i⟩
    obtain ⟨fx, ex, M, hf, _, hML, hrd2, hwr⟩ := ar.cells len_b
    have hlu : (upTo n i).length = n := upTo_len n i
    obtain ⟨q1, q2⟩ := hrd2 i (by omega)
    have hget : (upTo n i)[i]'(by omega) = false := by simp [upTo]
    rw [hget] at q2
    have hai := arr_index (P := Tryz.prog) (t := 91) (size := 1) (b := 1) (v := 0) (n := n) (i := i) Tryz.underlying91 (by simp) (by omega) hi
    simp only [Nat.mul_one, encB] at q1 q2 hai
    have hwr2 := hwr ((hh.new ⟨0, [10], true, askG g id seq (some B) i⟩).set 1 ⟨0, [M.length], fx, lay M (i * 1) (encB true)⟩) i true (by omega) (by simp; omega) (by simp)
    rw [upTo_set n i hi] at hwr2
    simp only [Nat.mul_one, encB] at hwr2
    first | (refine hide ?_; intro Q2 hQ2) | have hQ2 := True.intro
    repeat' (first
      | (replace hQ2 := hQ2; simp [hwi, hlt, hlt2, hlt3, hlt4, hlt5, hlt6, hix, hrd, hsame, hne, hne2, hf, q1, q2, hai, hw, outV, frzV, frzS, frzS_pure, frzP, pureS, pureL, K_own, hown])
      | (refine hQ2 _ _ _ ?_; clear hQ2 Q2; first | simp only [] | simp [hwi, hlt, hlt2, hlt3, hlt4, hlt5, hlt6, hix, hrd, hsame, hne, hne2, hf, q1, q2, hai, hw, outV, frzV, frzS, frzS_pure, frzP, pureS, pureL, K_own, hown] | skip)
      | (refine hadQ (by assumption) ?_; (try clear hQ2); first | simp only [] | simp [hwi, hlt, hlt2, hlt3, hlt4, hlt5, hlt6, hix, hrd, hsame, hne, hne2, hf, q1, q2, hai, hw, outV, frzV, frzS, frzS_pure, frzP, pureS, pureL, K_own, hown] | skip)
      | ((fail_if_success replace hQ2 := hQ2); (first | refine hide ?_ | refine hideS ?_ | refine hideB ?_); intro Q2 hQ2)
      | (first | apply cF | apply wN | apply wS) <;> intro hcnd <;> (try simp only [hcnd]) <;> (try simp [-List.isEmpty_iff, -List.isEmpty_eq_false_iff] at hcnd))
    all_goals (rw [hI]; exact ⟨by simpa [lay] using hwr2, by simp; omega, ex_get' (by simp)⟩)
  · intro fr hh hx
    rw [hI] at hx
    obtain ⟨ar, hn2, j, rfl⟩ := hx
    first | (refine hide ?_; intro Q3 hQ3) | have hQ3 := True.intro
    repeat' (first
      | (replace hQ3 := hQ3; simp [hw, outV, frzV, frzS, frzS_pure, frzP, pureS, pureL, K_own, hown])
      | (refine hQ3 _ _ _ ?_; clear hQ3 Q3; first | simp only [] | simp [hw, outV, frzV, frzS, frzS_pure, frzP, pureS, pureL, K_own, hown] | skip)
      | (refine hadQ (by assumption) ?_; (try clear hQ3); first | simp only [] | simp [hw, outV, frzV, frzS, frzS_pure, frzP, pureS, pureL, K_own, hown] | skip)
      | ((fail_if_success replace hQ3 := hQ3); (first | refine hide ?_ | refine hideS ?_ | refine hideB ?_); intro Q3 hQ3)
      | (first | apply cF | apply wN | apply wS) <;> intro hcnd <;> (try simp only [hcnd]) <;> (try simp [-List.isEmpty_iff, -List.isEmpty_eq_false_iff] at hcnd))
    all_goals trace_state
end Go.Proofs.YtmhbdpgflomihaaGreat
