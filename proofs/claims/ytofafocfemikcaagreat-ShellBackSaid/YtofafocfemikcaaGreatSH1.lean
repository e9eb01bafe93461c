/- A part of a proof over the abstract machine. No conditions. -/
import Derived.Test.YtofafocfemikcaaGreatC2
import Derived.Test.YtofafocfemikcaaGreatShellPlain
set_option linter.unusedSimpArgs false
set_option linter.unnecessarySimpa false
set_option linter.unusedVariables false
namespace Go.Proofs.YtofafocfemikcaaGreat
open Go Go.Ab Wm NumPlain
set_option maxRecDepth 10000
set_option maxHeartbeats 4000000
def itP (x : Wm.Item) : ShellPlain.It := ⟨x.kind, x.group, x.n, x.client, ls x.bytes⟩
def asG (k : Int) : Bool := decide (k = 1 ∨ k = 5)
def asC (k : Int) : Bool := decide (k = 1 ∨ k = 6)
def asN (k : Int) : Bool := decide (1 ≤ k ∧ k ≤ 5)
def asB (k : Int) : Bool := decide (k = 6 ∨ k = 7)
def asK (k : Int) : Bool := decide (1 ≤ k ∧ k ≤ 8)
def inB (a : Bool) (n m : Int) : Bool := !a || (decide (0 ≤ n) && decide (n ≤ m))
theorem kinds (k : Int) : k = 1 ∨ k = 2 ∨ k = 3 ∨ k = 4 ∨ k = 5 ∨ k = 6 ∨ k = 7 ∨ k = 8 ∨ (¬ (1 ≤ k ∧ k ≤ 8)) := by omega
theorem sasks_c (k : Int) (h : H) : W K 26 [.one (ii k)] h = some (.ret (.tup [(false, [.bool (asG k)]), (false, [.bool (asC k)]), (false, [.bool (asN k)]), (false, [.bool (asB k)]), (false, [.bool (asK k)])]) h) := by
 rcases kinds k with rfl | rfl | rfl | rfl | rfl | rfl | rfl | rfl | hk
 iterate 8
  focus
   have hown : memL S.own 26 = false := by kernel_rfl
   refine W_pure hp (by simp [pureV, asG, asC, asN, asB, asK, outV, frzV, frzS, frzS_pure, frzP, pureS, pureL, K_own, hown]) (apart_does rfl rfl (by kernel_rfl) Tryz.func26 rfl (by simp [Tryz.f26]) ?_)
   simp only [Tryz.f26]
   refine hide ?_; intro Q1 hQ1
   repeat' (first
    | (replace hQ1 := hQ1; simp [asG, asC, asN, asB, asK, outV, frzV, frzS, frzS_pure, frzP, pureS, pureL, K_own, hown])
    | refine hQ1 _ _ _ ?_
    | (first | apply cF | apply wN | apply wS) <;> intro hcnd <;> (try simp only [hcnd]) <;> (try simp [-List.isEmpty_iff, -List.isEmpty_eq_false_iff] at hcnd))
 ·have n1 : ¬ k = 1 := by omega
  have n2 : ¬ k = 2 := by omega
  have n3 : ¬ k = 3 := by omega
  have n4 : ¬ k = 4 := by omega
  have n5 : ¬ k = 5 := by omega
  have n6 : ¬ k = 6 := by omega
  have n7 : ¬ k = 7 := by omega
  have n8 : ¬ k = 8 := by omega
  have e1 : asG k = false := by simp [asG]; omega
  have e2 : asC k = false := by simp [asC]; omega
  have e3 : asN k = false := by simp [asN]; omega
  have e4 : asB k = false := by simp [asB]; omega
  have e5 : asK k = false := by simp [asK]; omega
  have b1 : (k == 1) = false := by simpa using n1
  have b2 : (k == 2) = false := by simpa using n2
  have b3 : (k == 3) = false := by simpa using n3
  have b4 : (k == 4) = false := by simpa using n4
  have b5 : (k == 5) = false := by simpa using n5
  have b6 : (k == 6) = false := by simpa using n6
  have b7 : (k == 7) = false := by simpa using n7
  have b8 : (k == 8) = false := by simpa using n8
  rw [e1, e2, e3, e4, e5]
  have hown : memL S.own 26 = false := by kernel_rfl
  refine W_pure hp (by simp [pureV, n1, n2, n3, n4, n5, n6, n7, n8, b1, b2, b3, b4, b5, b6, b7, b8, outV, frzV, frzS, frzS_pure, frzP, pureS, pureL, K_own, hown]) (apart_does rfl rfl (by kernel_rfl) Tryz.func26 rfl (by simp [Tryz.f26]) ?_)
  simp only [Tryz.f26]
  refine hide ?_; intro Q2 hQ2
  repeat' (first
   | (replace hQ2 := hQ2; simp [n1, n2, n3, n4, n5, n6, n7, n8, b1, b2, b3, b4, b5, b6, b7, b8, outV, frzV, frzS, frzS_pure, frzP, pureS, pureL, K_own, hown])
   | refine hQ2 _ _ _ ?_
   | (first | apply cF | apply wN | apply wS) <;> intro hcnd <;> (try simp only [hcnd]) <;> (try simp [-List.isEmpty_iff, -List.isEmpty_eq_false_iff] at hcnd))
theorem sin_c (a : Bool) (n m : Int) (h : H) : W K 25 [.one (.bool a), .one (ii n), .one (ii m)] h = some (.ret (.one (.bool (inB a n m))) h) := by
 unfold inB
 cases a
 ·have hown : memL S.own 25 = false := by kernel_rfl
  refine W_pure hp (by simp [pureV, outV, frzV, frzS, frzS_pure, frzP, pureS, pureL, K_own, hown]) (apart_does rfl rfl (by kernel_rfl) Tryz.func25 rfl (by simp [Tryz.f25]) ?_)
  simp only [Tryz.f25]
  refine hide ?_; intro Q3 hQ3
  repeat' (first
   | (replace hQ3 := hQ3; simp [outV, frzV, frzS, frzS_pure, frzP, pureS, pureL, K_own, hown])
   | (refine hQ3 _ _ _ ?_; clear hQ3 Q3; first | simp only [] | simp [outV, frzV, frzS, frzS_pure, frzP, pureS, pureL, K_own, hown])
   | (first | apply cF | apply wN | apply wS) <;> intro hcnd <;> (try simp only [hcnd]) <;> (try simp [-List.isEmpty_iff, -List.isEmpty_eq_false_iff] at hcnd))
  all_goals first | done | (simp_all [-List.isEmpty_iff, -List.isEmpty_eq_false_iff, ← List.isEmpty_iff]; done) | (simp_all; done) | (simp_all; omega) | (simp; omega) | (intros; omega) | (intros; simp only [decide_eq_true_eq] at *; omega) | (intros; simp at *; omega) | skip
 ·have hown : memL S.own 25 = false := by kernel_rfl
  refine W_pure hp (by simp [pureV, outV, frzV, frzS, frzS_pure, frzP, pureS, pureL, K_own, hown]) (apart_does rfl rfl (by kernel_rfl) Tryz.func25 rfl (by simp [Tryz.f25]) ?_)
  simp only [Tryz.f25]
  refine hide ?_; intro Q4 hQ4
  repeat' (first
   | (replace hQ4 := hQ4; simp [outV, frzV, frzS, frzS_pure, frzP, pureS, pureL, K_own, hown])
   | (refine hQ4 _ _ _ ?_; clear hQ4 Q4; first | simp only [] | simp [outV, frzV, frzS, frzS_pure, frzP, pureS, pureL, K_own, hown])
   | (first | apply cF | apply wN | apply wS) <;> intro hcnd <;> (try simp only [hcnd]) <;> (try simp [-List.isEmpty_iff, -List.isEmpty_eq_false_iff] at hcnd))
  all_goals first | done | (simp_all [-List.isEmpty_iff, -List.isEmpty_eq_false_iff, ← List.isEmpty_iff]; done) | (simp_all; done) | (simp_all; omega) | (simp; omega) | (intros; omega) | (intros; simp only [decide_eq_true_eq] at *; omega) | (intros; simp at *; omega) | skip
theorem okI_as (x : Wm.Item) : ShellPlain.okI (itP x) = (asK x.kind && (inB (asG x.kind) x.group 255 && (inB (asC x.kind) x.client 255 && (inB (asN x.kind) x.n 65535 && inB (asB x.kind) (ls x.bytes).length 65535)))) := by
 obtain ⟨k, g, n, c, b⟩ := x
 unfold ShellPlain.okI itP
 simp only [inB, ShellPlain.small, ShellPlain.num]
 rcases kinds k with rfl | rfl | rfl | rfl | rfl | rfl | rfl | rfl | hk
 all_goals try (simp [asG, asC, asN, asB, asK, Bool.and_assoc]; done)
 ·have n1 : ¬ k = 1 := by omega
  have n2 : ¬ (k = 2 ∨ k = 3 ∨ k = 4) := by omega
  have n5 : ¬ k = 5 := by omega
  have n6 : ¬ k = 6 := by omega
  have n7 : ¬ k = 7 := by omega
  have n8 : ¬ k = 8 := by omega
  have e5 : asK k = false := by simp [asK]; omega
  simp [n1, n2, n5, n6, n7, n8, e5]
theorem sitem_c (x_kind : Int) (x_group : Int) (x_n : Int) (x_client : Int) (x_bytes : Option BL) (h : H) : W K 24 [.agg [ii x_kind, ii x_group, ii x_n, ii x_client, bs x_bytes]] h = some (.ret (.one (.bool (ShellPlain.okI (itP ⟨x_kind, x_group, x_n, x_client, x_bytes⟩)))) h) := by
 have ha := sasks_c x_kind
 have h1 := sin_c (asG x_kind) x_group 255
 have h2 := sin_c (asC x_kind) x_client 255
 have h3 := sin_c (asN x_kind) x_n 65535
 have h4 := sin_c (asB x_kind) (ls x_bytes).length 65535
 have hL : ∀ h, lenA (bs x_bytes) (some (.slice 5)) h = some (one (ii (ls x_bytes).length) h) := fun h => lenA_bs _ _ _
 rw [okI_as]
 simp only
 generalize asG x_kind = G at *
 generalize asC x_kind = C at *
 generalize asN x_kind = N at *
 generalize asB x_kind = B at *
 generalize asK x_kind = A at *
 generalize inB G x_group 255 = i1 at *
 generalize inB C x_client 255 = i2 at *
 generalize inB N x_n 65535 = i3 at *
 generalize inB B (ls x_bytes).length 65535 = i4 at *
 have hown : memL S.own 24 = false := by kernel_rfl
 refine W_pure hp (by simp [pureV, ha, h1, h2, h3, h4, hL, outV, frzV, frzS, frzS_pure, frzP, pureS, pureL, K_own, hown]) (apart_does rfl rfl (by kernel_rfl) Tryz.func24 rfl (by simp [Tryz.f24]) ?_)
 simp only [Tryz.f24]
 refine hide ?_; intro Q5 hQ5
 repeat' (first
  | (replace hQ5 := hQ5; simp [ha, h1, h2, h3, h4, hL, outV, frzV, frzS, frzS_pure, frzP, pureS, pureL, K_own, hown])
  | (refine hQ5 _ _ _ ?_; clear hQ5 Q5; first | simp only [] | simp [ha, h1, h2, h3, h4, hL, outV, frzV, frzS, frzS_pure, frzP, pureS, pureL, K_own, hown])
  | (first | apply cF | apply wN | apply wS) <;> intro hcnd <;> (try simp only [hcnd]) <;> (try simp [-List.isEmpty_iff, -List.isEmpty_eq_false_iff] at hcnd))
 all_goals first | done | (simp_all [-List.isEmpty_iff, -List.isEmpty_eq_false_iff, ← List.isEmpty_iff]; done) | (simp_all; done) | (simp_all; omega) | (simp; omega) | (intros; omega) | (intros; simp only [decide_eq_true_eq] at *; omega) | (intros; simp at *; omega) | skip
theorem sitemX_c (x : Wm.Item) (h : H) : W K 24 [.agg (encItem x)] h = some (.ret (.one (.bool (ShellPlain.okI (itP x)))) h) := by
 obtain ⟨x_kind, x_group, x_n, x_client, x_bytes⟩ := x
 exact sitem_c _ _ _ _ _ h
theorem indexItem_c (o : Option (List Wm.Item)) (g : Nat) (caps : List AS) (p : Wm.Item → Bool) (hg : ∀ x h, W K g (.agg (encItem x) :: caps.map AV.one) h = some (.ret (.one (.bool (p x))) h)) (hc : pureL false caps = true) (ho : (ls o).length < 9223372036854775807) (h : H) :
  W K 45 [.one (sl 5 encItem o), .one (.fn g [] caps)] h = some (.ret (.one (ii (idx p (ls o)))) h) := by
 have hown : memL S.own 45 = false := by kernel_rfl
 refine W_pure hp (by simp [pureV, hc, outV, frzV, frzS, frzS_pure, frzP, pureS, pureL, K_own, hown]) (apart_does rfl rfl (by kernel_rfl) Tryz.func45 rfl (by simp [Tryz.f45]) ?_)
 simp only [Tryz.f45]
 refine hide ?_; intro Q6 hQ6
 repeat' (first
  | (replace hQ6 := hQ6; simp [hc, outV, frzV, frzS, frzS_pure, frzP, pureS, pureL, K_own, hown])
  | refine hQ6 _ _ _ ?_
  | (first | apply cF | apply wN | apply wS) <;> intro hcnd <;> (try simp only [hcnd]) <;> (try simp [-List.isEmpty_iff, -List.isEmpty_eq_false_iff] at hcnd))
 refine does_each hp (ls o) (fun a r fr hh => ∃ j, fr = ((.one (sl 5 encItem o)) :: (.one (.fn g [] caps)) :: j 2 :: j 3 :: (.one (ii 0)) :: j 5 :: j 6 :: (.one (ii (ls o).length)) :: (.one (ii a.length)) :: j 9 :: j 10 :: j 11 :: j 12 :: j 13 :: j 14 :: j 15 :: j 16 :: j 17 :: j 18 :: []) ∧ ∀ y ∈ a, p y = false) ?_ ?_ _ _ (ex_get rfl (by simp))
 ·rintro a x r fr hh hl ⟨j, rfl, ha⟩
  obtain rfl := ls_cons hl
  have hi := index_sl (P := Tryz.prog) (enc := encItem) (s := 5) (l := a ++ x :: r) (i := a.length) Tryz.underlying25 (by simp) (by omega) (by simp)
  have hr := sub_flat (enc := encItem) (s := 5) len_item a x r (o := 0) (n := 5) (by omega)
  have hw : IntKind.i64.wrap ((a.length : Int) + 1) = ((a ++ [x]).length : Int) := by rw [step_len]; exact step_wrap (by simp at ho; omega)
  have hx := hg x
  simp only [Nat.add_zero] at hr
  first | (refine hide ?_; intro Q7 hQ7) | have hQ7 := True.intro
  repeat' (first
   | (replace hQ7 := hQ7; simp [hi, hr, hx, hw, hc, sub_all (len_item x), outV, frzV, frzS, frzS_pure, frzP, pureS, pureL, K_own, hown])
   | (refine hQ7 _ _ _ ?_; clear hQ7 Q7; first | simp only [] | simp [hi, hr, hx, hw, hc, sub_all (len_item x), outV, frzV, frzS, frzS_pure, frzP, pureS, pureL, K_own, hown] | skip)
   | (refine hadQ (by assumption) ?_; (try clear hQ7); first | simp only [] | simp [hi, hr, hx, hw, hc, sub_all (len_item x), outV, frzV, frzS, frzS_pure, frzP, pureS, pureL, K_own, hown] | skip)
   | ((fail_if_success replace hQ7 := hQ7); (first | refine hide ?_ | refine hideS ?_ | refine hideB ?_); intro Q7 hQ7)
   | (first | apply cF | apply wN | apply wS) <;> intro hcnd <;> (try simp only [hcnd]) <;> (try simp [-List.isEmpty_iff, -List.isEmpty_eq_false_iff] at hcnd))
  all_goals first | omega | exact (idx_hit ha ‹_›).symm | (refine ex_get (by simp) ?_; intro y hy; rcases List.mem_append.mp hy with hy | hy; exact ha y hy; rw [List.mem_singleton.mp hy]; assumption) | skip
 ·rintro fr hh ⟨j, rfl, ha⟩
  first | (refine hide ?_; intro Q8 hQ8) | have hQ8 := True.intro
  repeat' (first
   | (replace hQ8 := hQ8; simp [idx_miss ha, outV, frzV, frzS, frzS_pure, frzP, pureS, pureL, K_own, hown])
   | (refine hQ8 _ _ _ ?_; clear hQ8 Q8; first | simp only [] | simp [idx_miss ha, outV, frzV, frzS, frzS_pure, frzP, pureS, pureL, K_own, hown] | skip)
   | (refine hadQ (by assumption) ?_; (try clear hQ8); first | simp only [] | simp [idx_miss ha, outV, frzV, frzS, frzS_pure, frzP, pureS, pureL, K_own, hown] | skip)
   | ((fail_if_success replace hQ8 := hQ8); (first | refine hide ?_ | refine hideS ?_ | refine hideB ?_); intro Q8 hQ8)
   | (first | apply cF | apply wN | apply wS) <;> intro hcnd <;> (try simp only [hcnd]) <;> (try simp [-List.isEmpty_iff, -List.isEmpty_eq_false_iff] at hcnd))
  all_goals first | done | (simp_all [-List.isEmpty_iff, -List.isEmpty_eq_false_iff, ← List.isEmpty_iff]; done) | (simp_all; done) | (simp_all; omega) | (simp; omega) | (intros; omega) | (intros; simp only [decide_eq_true_eq] at *; omega) | (intros; simp at *; omega) | skip
theorem containsItem_c (o : Option (List Wm.Item)) (g : Nat) (caps : List AS) (p : Wm.Item → Bool) (hg : ∀ x h, W K g (.agg (encItem x) :: caps.map AV.one) h = some (.ret (.one (.bool (p x))) h)) (hc : pureL false caps = true) (ho : (ls o).length < 9223372036854775807) (h : H) :
  W K 22 [.one (sl 5 encItem o), .one (.fn g [] caps)] h = some (.ret (.one (.bool ((ls o).any p))) h) := by
 have hi := indexItem_c o g caps p hg hc ho
 rw [← idx_any]
 have hown : memL S.own 22 = false := by kernel_rfl
 refine W_pure hp (by simp [pureV, hc, hi, outV, frzV, frzS, frzS_pure, frzP, pureS, pureL, K_own, hown]) (apart_does rfl rfl (by kernel_rfl) Tryz.func22 rfl (by simp [Tryz.f22]) ?_)
 simp only [Tryz.f22]
 refine hide ?_; intro Q9 hQ9
 repeat' (first
  | (replace hQ9 := hQ9; simp [hc, hi, outV, frzV, frzS, frzS_pure, frzP, pureS, pureL, K_own, hown])
  | refine hQ9 _ _ _ ?_)
theorem encode1_c (x : Wm.Item) (h : H) : W K 23 (.agg (encItem x) :: ([] : List AS).map AV.one) h = some (.ret (.one (.bool (!ShellPlain.okI (itP x)))) h) := by
 have hx := sitemX_c x
 obtain ⟨x_kind, x_group, x_n, x_client, x_bytes⟩ := x
 simp only [encItem] at hx
 simp only [List.map_nil, encItem]
 have hown : memL S.own 23 = false := by kernel_rfl
 refine W_pure hp (by simp [pureV, hx, outV, frzV, frzS, frzS_pure, frzP, pureS, pureL, K_own, hown]) (apart_does rfl rfl (by kernel_rfl) Tryz.func23 rfl (by simp [Tryz.f23]) ?_)
 simp only [Tryz.f23]
 refine hide ?_; intro Q10 hQ10
 repeat' (first
  | (replace hQ10 := hQ10; simp [hx, outV, frzV, frzS, frzS_pure, frzP, pureS, pureL, K_own, hown])
  | refine hQ10 _ _ _ ?_)
end Go.Proofs.YtofafocfemikcaaGreat
