/- A part of a proof over the abstract machine. No conditions. -/
import Derived.Test.YtofafocfemikcaaGreatSH1
import Derived.Test.YtofafocfemikcaaGreatC3
import Derived.Test.YtofafocfemikcaaGreatAb5
set_option linter.unusedSimpArgs false
set_option linter.unnecessarySimpa false
set_option linter.unusedVariables false
namespace Go.Proofs.YtofafocfemikcaaGreat
open Go Go.Ab Wm NumPlain
set_option maxRecDepth 10000
set_option maxHeartbeats 4000000
def scP (g n c : Int) (o : Option (List Wm.Item)) : ShellPlain.Sc := ⟨g, n, c, (ls o).map itP⟩
def itBs (x : Wm.Item) : BL := ShellPlain.itB (itP x)
theorem itB_len {x : Wm.Item} (h : ShellPlain.okI (itP x) = true) : (itBs x).length ≤ 65550 := by
 obtain ⟨k, g, n, c, b⟩ := x
 unfold itBs itP ShellPlain.itB
 unfold ShellPlain.okI itP at h
 simp only at h ⊢
 rcases kinds k with rfl | rfl | rfl | rfl | rfl | rfl | rfl | rfl | hk
 all_goals try (simp [ShellPlain.two]; done)
 ·simp at h; simp [ShellPlain.two]; omega
 ·simp at h; simp [ShellPlain.two]; omega
 ·have n1 : ¬ k = 1 := by omega
  have n2 : ¬ (k = 2 ∨ k = 3 ∨ k = 4) := by omega
  have n5 : ¬ k = 5 := by omega
  have n6 : ¬ k = 6 := by omega
  have n7 : ¬ k = 7 := by omega
  simp [n1, n2, n5, n6, n7]
theorem flat_len {α : Type} {f : α → BL} {m : Nat} : ∀ {l : List α}, (∀ x ∈ l, (f x).length ≤ m) → (l.flatMap f).length ≤ l.length * m
 | [], _ => by simp
 | x :: l, h => by
  have h1 := h x (by simp)
  have h2 := flat_len fun y hy => h y (List.mem_cons_of_mem _ hy)
  simp only [List.flatMap_cons, List.length_append, List.length_cons, Nat.succ_mul]; omega
theorem scB_eq (g n c : Int) (o : Option (List Wm.Item)) : ShellPlain.scB (scP g n c o) = [u8 g, u8 n, u8 c] ++ (ls o).flatMap itBs := by
 simp only [ShellPlain.scB, scP, List.flatMap_map]; rfl
theorem shr8 (n : Int) : shiftI .shr .i64 n 8 = some (.int .i64 (n / 256)) := by
 simp [shiftI, IntKind.bits]
 rw [Int.fdiv_eq_ediv_of_nonneg _ (by decide)]
theorem okS_and (g n c : Int) (o : Option (List Wm.Item)) (h : (ls o).length ≤ 256) : ShellPlain.okS (scP g n c o) = (!(ls o).any (fun x => !ShellPlain.okI (itP x)) && (inB true g 255 && (inB true n 255 && inB true c 255))) := by
 have e : ((ls o).map itP).all ShellPlain.okI = !(ls o).any (fun x => !ShellPlain.okI (itP x)) := by
  rw [List.all_map, List.all_eq_not_any_not]; rfl
 unfold ShellPlain.okS scP
 simp only [e, List.length_map, h, decide_true, Bool.true_and, inB, ShellPlain.small, Bool.not_true, Bool.false_or]
 cases (ls o).any (fun x => !ShellPlain.okI (itP x)) <;> simp [Bool.and_assoc, and_assoc]
theorem sencode_bad (g n c : Int) (o : Option (List Wm.Item)) (hl : (ls o).length ≤ 256) (hb : ShellPlain.okS (scP g n c o) = false) (h : H) : W K 7 [.agg [ii g, ii n, ii c, sl 5 encItem o]] h = some (.ret (.tup [(false, [.nilslc]), (false, [ii 1])]) h) := by
 have hcf := containsItem_c o 23 [] _ encode1_c rfl (by omega)
 have hL : ∀ h, lenA (sl 5 encItem o) (some (.slice 62)) h = some (one (ii (ls o).length) h) := fun h => lenA_sl _ _ _ _ _
 have hd : decide ((256 : Int) < (ls o).length) = false := by simp; omega
 have hd2 : ¬ (256 : Int) < (ls o).length := by omega
 have h1 := sin_c true g 255
 have h2 := sin_c true n 255
 have h3 := sin_c true c 255
 rw [okS_and g n c o hl] at hb
 generalize (ls o).any (fun x => !ShellPlain.okI (itP x)) = w at *
 generalize inB true g 255 = i1 at *
 generalize inB true n 255 = i2 at *
 generalize inB true c 255 = i3 at *
 have hown : memL S.own 7 = false := by kernel_rfl
 refine W_pure hp (by simp [pureV, hcf, hL, hd, hd2, h1, h2, h3, outV, frzV, frzS, frzS_pure, frzP, pureS, pureL, K_own, hown]) (apart_does rfl rfl (by kernel_rfl) Tryz.func7 rfl (by simp [Tryz.f7]) ?_)
 simp only [Tryz.f7]
 refine hide ?_; intro Q2 hQ2
 repeat' (first
  | (replace hQ2 := hQ2; simp [hcf, hL, hd, hd2, h1, h2, h3, outV, frzV, frzS, frzS_pure, frzP, pureS, pureL, K_own, hown])
  | (refine hQ2 _ _ _ ?_; clear hQ2 Q2; first | simp only [] | simp [hcf, hL, hd, hd2, h1, h2, h3, outV, frzV, frzS, frzS_pure, frzP, pureS, pureL, K_own, hown])
  | (first | apply cF | apply wN | apply wS) <;> intro hcnd <;> (try simp only [hcnd]) <;> (try simp [-List.isEmpty_iff, -List.isEmpty_eq_false_iff] at hcnd))
 all_goals first | done | (simp_all [-List.isEmpty_iff, -List.isEmpty_eq_false_iff, ← List.isEmpty_iff]; done) | (simp_all; done) | (simp_all; omega) | (simp; omega) | (intros; omega) | (intros; simp only [decide_eq_true_eq] at *; omega) | (intros; simp at *; omega) | skip
theorem combs {k : Int} (h1 : 1 ≤ k) (h8 : k ≤ 8) : (asG k = true ∧ asC k = true ∧ asN k = true ∧ asB k = false) ∨ (asG k = false ∧ asC k = false ∧ asN k = true ∧ asB k = false) ∨ (asG k = true ∧ asC k = false ∧ asN k = true ∧ asB k = false) ∨ (asG k = false ∧ asC k = true ∧ asN k = false ∧ asB k = true) ∨ (asG k = false ∧ asC k = false ∧ asN k = false ∧ asB k = true) ∨ (asG k = false ∧ asC k = false ∧ asN k = false ∧ asB k = false) := by
 rcases kinds k with rfl | rfl | rfl | rfl | rfl | rfl | rfl | rfl | hk
 all_goals first | (simp [asG, asC, asN, asB]; done) | omega
theorem by1_u8 (n : Int) : ShellPlain.by1 n = u8 n := rfl
theorem itB_as {x : Wm.Item} (h1 : 1 ≤ x.kind) (h8 : x.kind ≤ 8) : itBs x = [u8 x.kind] ++ ((if asG x.kind then [u8 x.group] else []) ++ ((if asC x.kind then [u8 x.client] else []) ++ ((if asN x.kind then [u8 (x.n / 256), u8 x.n] else []) ++ (if asB x.kind then [u8 (((ls x.bytes).length : Int) / 256), u8 (ls x.bytes).length] ++ ls x.bytes else [])))) := by
 obtain ⟨k, g, n, c, b⟩ := x
 unfold itBs itP ShellPlain.itB
 simp only at h1 h8 ⊢
 rcases kinds k with rfl | rfl | rfl | rfl | rfl | rfl | rfl | rfl | hk
 all_goals first | omega | (simp [asG, asC, asN, asB, ShellPlain.two, by1_u8]; done)
theorem app_bs {P : Program} {t u : Nat} {h : H} {s : AS} {o : Option BL} {f : AS × H → Option OR} {g : OR → Option RO} {Q : AV → H → Prop} {Kp : AS → H → Prop} (hx : onR (((appendA P t u h s (bs o)).bind f).bind g) Q Kp) : onR (((appendA P t u h s (bs o)).bind f).bind g) Q Kp := hx
theorem os_tail {h : H} {s : AS} {l : BL} {e : Nat × Blk} {kept : List (Nat × Blk)} (w : OS h s l (e :: kept)) : OS h s l kept := ⟨w.byt, w.kp.2, fun x hx => w.ok x (by simp [hx])⟩
theorem call_ap1 {C : Conf} {P : Program} {t el : Nat} (ht : P.underlying t = some (.slice el)) (h1 : elemT P t = some el) (h2 : sizeT P el = some 1) (h3 : bytesT P el = some 1) {h : H} {s : AS} {l : BL} {kept : List (Nat × Blk)} {b : UInt8} {fx : Bool} {n : Nat} (w : OS h s l kept) (hn : n = h.next) (hl : l.length + 1 ≤ 1099511627776)
  {K : AV → H → Prop} {Kp : AS → H → Prop} (hk : ∀ s' h', h.next ≤ h'.next → OS h' s' (l ++ [b]) kept → keptP h' kept → K (.one s') h') :
  onR (((appendA P t t (h.new ⟨0, [1], fx, [byteS b]⟩) s (.slc n 0 0 1 1 none)).bind fun p => some (OR.val (AV.one p.1) p.2)).bind (afterO (W C))) K Kp := by
 subst hn
 exact call_app ht h1 h2 h3 (x := [b]) (w.new _) rfl (elems_slc (n := 1) (fx := fx) (by simp) rfl) hl fun s' h' hn' o _ => hk s' h' (by simp at hn'; omega) (os_tail o) (os_tail o).kp
theorem call_ap2 {C : Conf} {P : Program} {t el : Nat} (ht : P.underlying t = some (.slice el)) (h1 : elemT P t = some el) (h2 : sizeT P el = some 1) (h3 : bytesT P el = some 1) {h : H} {s : AS} {l : BL} {kept : List (Nat × Blk)} {a b : UInt8} {fx : Bool} {n : Nat} (w : OS h s l kept) (hn : n = h.next) (hl : l.length + 2 ≤ 1099511627776)
  {K : AV → H → Prop} {Kp : AS → H → Prop} (hk : ∀ s' h', h.next ≤ h'.next → OS h' s' (l ++ [a, b]) kept → keptP h' kept → K (.one s') h') :
  onR (((appendA P t t (h.new ⟨0, [2], fx, [byteS a, byteS b]⟩) s (.slc n 0 0 2 1 none)).bind fun p => some (OR.val (AV.one p.1) p.2)).bind (afterO (W C))) K Kp := by
 subst hn
 exact call_app ht h1 h2 h3 (x := [a, b]) (w.new _) rfl (elems_slc (n := 2) (fx := fx) (by simp) rfl) hl fun s' h' hn' o _ => hk s' h' (by simp at hn'; omega) (os_tail o) (os_tail o).kp
theorem os_to {h : H} {s : AS} {l l' : BL} {kept : List (Nat × Blk)} (w : OS h s l kept) (e : l = l') : OS h s l' [] := ⟨e ▸ w.byt, trivial, by simp⟩
theorem ap1g {P : Program} {t u : Nat} {h : H} {s : AS} {b : UInt8} {fx : Bool} {n : Nat} {f : AS × H → Option OR} {g : OR → Option RO} {Q : AV → H → Prop} {Kp : AS → H → Prop} (hx : onR (((appendA P t u (h.new ⟨0, [1], fx, [byteS b]⟩) s (.slc n 0 0 1 1 none)).bind f).bind g) Q Kp) : onR (((appendA P t u (h.new ⟨0, [1], fx, [byteS b]⟩) s (.slc n 0 0 1 1 none)).bind f).bind g) Q Kp := hx
theorem ap2g {P : Program} {t u : Nat} {h : H} {s : AS} {a b : UInt8} {fx : Bool} {n : Nat} {f : AS × H → Option OR} {g : OR → Option RO} {Q : AV → H → Prop} {Kp : AS → H → Prop} (hx : onR (((appendA P t u (h.new ⟨0, [2], fx, [byteS a, byteS b]⟩) s (.slc n 0 0 2 1 none)).bind f).bind g) Q Kp) : onR (((appendA P t u (h.new ⟨0, [2], fx, [byteS a, byteS b]⟩) s (.slc n 0 0 2 1 none)).bind f).bind g) Q Kp := hx
theorem sencode_ok (g n c : Int) (o : Option (List Wm.Item)) (hl : (ls o).length ≤ 256) (hb : ShellPlain.okS (scP g n c o) = true) (h : H) : W K 7 [.agg [ii g, ii n, ii c, sl 5 encItem o]] h = some (.ret (.tup [(false, [bs (some (ShellPlain.scB (scP g n c o)))]), (false, [ii 0])]) h) := by
 have hcf := containsItem_c o 23 [] _ encode1_c rfl (by omega)
 have hL : ∀ h, lenA (sl 5 encItem o) (some (.slice 62)) h = some (one (ii (ls o).length) h) := fun h => lenA_sl _ _ _ _ _
 have hd : decide ((256 : Int) < (ls o).length) = false := by simp; omega
 have hd2 : ¬ (256 : Int) < (ls o).length := by omega
 have hd3 : ¬ 256 < (ls o).length := by omega
 have h1 := sin_c true g 255
 have h2 := sin_c true n 255
 have h3 := sin_c true c 255
 rw [okS_and g n c o hl] at hb
 simp only [Bool.and_eq_true, Bool.not_eq_true'] at hb
 obtain ⟨b0, b1, b2, b3⟩ := hb
 rw [b0] at hcf
 rw [b1] at h1
 rw [b2] at h2
 rw [b3] at h3
 have hall : ∀ x ∈ ls o, ShellPlain.okI (itP x) = true := by
  intro x hx
  rw [List.any_eq_false] at b0
  simpa using b0 x hx
 rw [scB_eq]
 have hk := True.intro
 have hown : memL S.own 7 = false := by kernel_rfl
 refine W_pure hp (by simp [pureV, pureS, pureL]) (apart_does rfl rfl (by kernel_rfl) Tryz.func7 rfl (by simp [Tryz.f7]) ?_)
 simp only [Tryz.f7, List.length_cons, List.length_nil, List.replicate, List.cons_append, List.nil_append, Nat.reduceAdd, Nat.reduceSub]
 first | (refine hide ?_; intro Q3 hQ3) | have hQ3 := True.intro
 repeat' (first
  | (replace hQ3 := hQ3; simp [hcf, hL, hd, hd2, hd3, h1, h2, h3, convA, wrapB, outV, frzV, K_own, hown, hk])
  | (refine hQ3 _ _ _ ?_; clear hQ3 Q3; first | simp only [] | simp [hcf, hL, hd, hd2, hd3, h1, h2, h3, convA, wrapB, outV, frzV, K_own, hown, hk] | skip)
  | (refine hadQ (by assumption) ?_; (try clear hQ3); first | simp only [] | simp [hcf, hL, hd, hd2, hd3, h1, h2, h3, convA, wrapB, outV, frzV, K_own, hown, hk] | skip)
  | ((fail_if_success replace hQ3 := hQ3); (first | refine hide ?_ | refine hideS ?_ | refine hideB ?_); intro Q3 hQ3)
  | (first | apply cF | apply wN | apply wS) <;> intro hcnd <;> (try simp only [hcnd]) <;> (try simp [-List.isEmpty_iff, -List.isEmpty_eq_false_iff] at hcnd))
 obtain ⟨pre, hpre⟩ : ∃ pre : BL, [u8 g, u8 n, u8 c] = pre := ⟨_, rfl⟩
 have hprel : pre.length = 3 := by rw [← hpre]; rfl
 obtain ⟨I, hI⟩ : ∃ I : List Wm.Item → List Wm.Item → Fr → H → Prop, I = fun a r fr hh => ∃ s, OS hh s (pre ++ a.flatMap itBs) [] ∧ ∃ j : Nat → AV, fr = (j 0 :: j 1 :: j 2 :: j 3 :: j 4 :: j 5 :: (.one s) :: j 7 :: j 8 :: j 9 :: j 10 :: j 11 :: j 12 :: j 13 :: j 14 :: j 15 :: j 16 :: j 17 :: j 18 :: j 19 :: j 20 :: j 21 :: j 22 :: j 23 :: j 24 :: j 25 :: j 26 :: j 27 :: j 28 :: j 29 :: j 30 :: j 31 :: j 32 :: j 33 :: j 34 :: j 35 :: j 36 :: j 37 :: j 38 :: j 39 :: j 40 :: j 41 :: j 42 :: j 43 :: j 44 :: j 45 :: j 46 :: j 47 :: j 48 :: j 49 :: j 50 :: j 51 :: j 52 :: j 53 :: j 54 :: j 55 :: (.one (sl 5 encItem o)) :: (.one (ii (ls o).length)) :: (.one (ii a.length)) :: j 59 :: j 60 :: j 61 :: j 62 :: j 63 :: j 64 :: j 65 :: j 66 :: j 67 :: j 68 :: j 69 :: j 70 :: j 71 :: j 72 :: j 73 :: j 74 :: j 75 :: j 76 :: j 77 :: j 78 :: j 79 :: j 80 :: j 81 :: j 82 :: j 83 :: j 84 :: j 85 :: j 86 :: j 87 :: j 88 :: j 89 :: j 90 :: j 91 :: j 92 :: j 93 :: j 94 :: j 95 :: j 96 :: j 97 :: j 98 :: j 99 :: j 100 :: j 101 :: j 102 :: j 103 :: j 104 :: j 105 :: j 106 :: j 107 :: j 108 :: j 109 :: j 110 :: j 111 :: j 112 :: j 113 :: j 114 :: j 115 :: j 116 :: j 117 :: j 118 :: j 119 :: []) := ⟨_, rfl⟩
 refine does_each hp (ls o) I ?_ ?_ _ _ ?_
 rotate_left 2
 ·rw [hI, ← hpre]
  refine ⟨_, OS.made _ [u8 g, u8 n, u8 c] true [] trivial (by simp), ex_get' (by simp)⟩
 ·intro a x r fr hh hll hx
  rw [hI] at hx
  obtain ⟨s, os, j, rfl⟩ := hx
  have hxo := hall x (by rw [hll]; simp)
  have hlen : (a.flatMap itBs).length ≤ a.length * 65550 := flat_len fun y hy => itB_len (hall y (by rw [hll]; simp [hy]))
  have hal : a.length ≤ 256 := by rw [hll] at hl; simp at hl; omega
  have hlt : decide ((a.length : Int) < (ls o).length) = true := by rw [hll]; simp; omega
  have hlt2 : (a.length : Int) < (ls o).length := by rw [hll]; simp; omega
  generalize ((ls o).length : Int) = LO at *
  obtain rfl := ls_cons hll
  obtain ⟨k1, k8⟩ := ShellPlain.ok_kind hxo
  have hbl : asB x.kind = true → (ls x.bytes).length ≤ 65535 := by
   intro hB
   rw [okI_as, hB] at hxo
   simp [inB] at hxo
   omega
  have hit := itB_as (x := x) k1 k8
  have hcm := combs (k := x.kind) k1 k8
  obtain ⟨P, hP⟩ : ∃ P : BL, pre ++ a.flatMap itBs = P := ⟨_, rfl⟩
  have hPl : P.length ≤ 20000000 := by rw [← hP]; simp only [List.length_append]; omega
  rw [hP] at os
  obtain ⟨x_kind, x_group, x_n, x_client, x_bytes⟩ := x
  simp only at hit hcm hbl k1 k8
  have ha := sasks_c x_kind
  have hq1 := shr8 x_n
  have hq2 := shr8 ((ls x_bytes).length : Int)
  have hLb : ∀ h, lenA (bs x_bytes) (some (.slice 5)) h = some (one (ii (ls x_bytes).length) h) := fun h => lenA_bs _ _ _
  have hi := index_sl (P := Tryz.prog) (enc := encItem) (s := 5) (l := a ++ ⟨x_kind, x_group, x_n, x_client, x_bytes⟩ :: r) (i := a.length) Tryz.underlying25 (by simp) (by omega) (by simp)
  have hr := sub_flat (enc := encItem) (s := 5) len_item a ⟨x_kind, x_group, x_n, x_client, x_bytes⟩ r (o := 0) (n := 5) (by omega)
  simp only [Nat.add_zero, sub_all (len_item _)] at hr
  simp only [encItem] at hr
  have hwi : IntKind.i64.wrap ((a.length : Int) + 1) = ((a.length : Int) + 1) := step_wrap (by omega)
  rcases hcm with ⟨hG, hC, hN, hB⟩ | ⟨hG, hC, hN, hB⟩ | ⟨hG, hC, hN, hB⟩ | ⟨hG, hC, hN, hB⟩ | ⟨hG, hC, hN, hB⟩ | ⟨hG, hC, hN, hB⟩
  all_goals
   rw [hG, hC, hN, hB] at hit ha
   rw [hB] at hbl
   simp only [if_true, if_false, oqF, forall_const, false_implies] at hit hbl
   have hk := True.intro
   first | (refine hide ?_; intro Q4 hQ4) | have hQ4 := True.intro
   repeat' (first
    | (replace hQ4 := hQ4; simp [hi, hr, hwi, hlt, hlt2, ha, hq1, hq2, hLb, convA, wrapB, hk])
    | (refine hQ4 _ _ _ ?_; clear hQ4 Q4; first | simp only [] | simp [hi, hr, hwi, hlt, hlt2, ha, hq1, hq2, hLb, convA, wrapB, hk] | skip)
    | (refine hadQ (by assumption) ?_; (try clear hQ4); first | simp only [] | simp [hi, hr, hwi, hlt, hlt2, ha, hq1, hq2, hLb, convA, wrapB, hk] | skip)
    | ((fail_if_success replace hQ4 := hQ4); (first | refine hide ?_ | refine hideS ?_ | refine hideB ?_); intro Q4 hQ4)
    | ((with_reducible refine ap1g ?_); refine call_ap1 Tryz.underlying31 (by simp) (by simp) Tryz.bytes5 (by first | assumption | exact OS.new (by assumption) _) (by first | rfl | simp) (by first | assumption | omega | (simp only [List.length_append, List.length_cons, List.length_nil, be_length, textB, encSpn, num4, num8]; omega) | (simp only [List.length_append, List.length_cons, List.length_nil, be_length, textB] at *; omega) | (simp at *; omega)) (fun s' h' hn' os hk' => ?_); (try simp only [keptP, and_true] at hk'); have hk := And.intro hk' hk; clear hk'; (try simp [hi, hr, hwi, hlt, hlt2, ha, hq1, hq2, hLb, convA, wrapB, hk]))
    | ((with_reducible refine ap2g ?_); refine call_ap2 Tryz.underlying31 (by simp) (by simp) Tryz.bytes5 (by first | assumption | exact OS.new (by assumption) _) (by first | rfl | simp) (by first | assumption | omega | (simp only [List.length_append, List.length_cons, List.length_nil, be_length, textB, encSpn, num4, num8]; omega) | (simp only [List.length_append, List.length_cons, List.length_nil, be_length, textB] at *; omega) | (simp at *; omega)) (fun s' h' hn' os hk' => ?_); (try simp only [keptP, and_true] at hk'); have hk := And.intro hk' hk; clear hk'; (try simp [hi, hr, hwi, hlt, hlt2, ha, hq1, hq2, hLb, convA, wrapB, hk]))
    | ((with_reducible refine app_bs ?_); refine call_app Tryz.underlying31 (by simp) (by simp) Tryz.bytes5 (a := bs x_bytes) (x := ls x_bytes) (by assumption) (lenS_bs _) (elems_bs _ _) (by first | assumption | omega | (simp only [List.length_append, List.length_cons, List.length_nil, be_length, textB, encSpn, num4, num8]; omega) | (simp only [List.length_append, List.length_cons, List.length_nil, be_length, textB] at *; omega) | (simp at *; omega)) (fun s' h' hn' os hk' => ?_); (try simp only [keptP, and_true] at hk'); have hk := And.intro hk' hk; clear hk'; (try simp [hi, hr, hwi, hlt, hlt2, ha, hq1, hq2, hLb, convA, wrapB, hk]))
    | (first | apply cF | apply wN | apply wS) <;> intro hcnd <;> (try simp only [hcnd]) <;> (try simp [-List.isEmpty_iff, -List.isEmpty_eq_false_iff] at hcnd))
   all_goals first | omega | (rw [hI]; refine ⟨_, os_to os (by rw [List.flatMap_append, ← List.append_assoc, hP]; simp [hit]), ?_⟩; rw [List.length_append]; exact ex_get' (by simp)) | trace_state
 ·intro fr hh hx
  rw [hI] at hx
  obtain ⟨s, os, j, rfl⟩ := hx
  have hk := True.intro
  have hz := byt_frz (st := false) (n := 62) os.byt
  simp only [Nat.reduceAdd] at hz
  first | (refine hide ?_; intro Q5 hQ5) | have hQ5 := True.intro
  repeat' (first
   | (replace hQ5 := hQ5; simp [outV, frzV, frzP, frzS, pureS, K_own, hown, hz, hk])
   | (refine hQ5 _ _ _ ?_; clear hQ5 Q5; first | simp only [] | simp [outV, frzV, frzP, frzS, pureS, K_own, hown, hz, hk] | skip)
   | (refine hadQ (by assumption) ?_; (try clear hQ5); first | simp only [] | simp [outV, frzV, frzP, frzS, pureS, K_own, hown, hz, hk] | skip)
   | ((fail_if_success replace hQ5 := hQ5); (first | refine hide ?_ | refine hideS ?_ | refine hideB ?_); intro Q5 hQ5)
   | (first | apply cF | apply wN | apply wS) <;> intro hcnd <;> (try simp only [hcnd]) <;> (try simp [-List.isEmpty_iff, -List.isEmpty_eq_false_iff] at hcnd))
  all_goals first | omega | (simp [frzP, frzS, hz, ← hpre]; done) | trace_state
end Go.Proofs.YtofafocfemikcaaGreat
