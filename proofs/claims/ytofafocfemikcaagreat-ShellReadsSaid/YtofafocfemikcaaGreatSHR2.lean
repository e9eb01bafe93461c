/- A part of a proof over the abstract machine. No conditions. -/
import Derived.Test.YtofafocfemikcaaGreatSHR
import Derived.Test.YtofafocfemikcaaGreatAb5
set_option linter.unusedSimpArgs false
set_option linter.unnecessarySimpa false
set_option linter.unusedVariables false
namespace Go.Proofs.YtofafocfemikcaaGreat
open Go Go.Ab Wm NumPlain
set_option maxRecDepth 10000
set_option maxHeartbeats 4000000
def st1 (c:Bool) (n:Nat) (q:Option BL × Bool):Option BL × Bool:=if c then (rO q.1 q.2 n,noB q.1 q.2 n) else q
def itQ (k:Int) (o:Option BL) (bad:Bool):Option BL × Bool:=st1 (asB k) 2 (st1 (asN k) 2 (st1 (asC k) 1 (st1 (asG k) 1 (o,bad))))
def itM (k:Int) (o:Option BL) (bad:Bool):Wm.Item × Option BL × Bool :=
 (⟨k,if asG k then rV o bad 1 else 0,if asN k then rV (st1 (asC k) 1 (st1 (asG k) 1 (o,bad))).1 (st1 (asC k) 1 (st1 (asG k) 1 (o,bad))).2 2 else 0,
  if asC k then rV (st1 (asG k) 1 (o,bad)).1 (st1 (asG k) 1 (o,bad)).2 1 else 0,
  if asB k then rX (itQ k o bad).1 (itQ k o bad).2 (rV (st1 (asC k) 1 (o,bad)).1 (st1 (asC k) 1 (o,bad)).2 2) else none⟩,
  st1 (asB k) (rV (st1 (asC k) 1 (o,bad)).1 (st1 (asC k) 1 (o,bad)).2 2) (itQ k o bad))
theorem rV_lt (o:Option BL) (bad:Bool) (n:Nat) (hn:n ≤ 2):rV o bad n < 65536:=by
 have h1:=numB_lt (ls (rX o bad n))
 have h2:256 ^ (ls (rX o bad n)).length ≤ 256 ^ 2:=Nat.pow_le_pow_right (by omega) (Nat.le_trans (rX_len o bad n) hn)
 unfold rV;omega
theorem item_t {h:H} {p:Nat} (k:Int) (hk:1 ≤ k∧k ≤ 8) (o:Option BL) (bad:Bool) (hpn:p < h.next) (hf:h.f p = some (rB o bad)) :
  ∃ r,W K 33 [.one (.ptr p 0 0),.one (ii k)] h = some r∧Rets (fun v h'=>v = .agg (encItem (itM k o bad).1)∧h'.f p = some (rB (itM k o bad).2.1 (itM k o bad).2.2)∧h.next ≤ h'.next∧∀ b,b < h.next→b ≠ p→h'.f b = h.f b) r:=by
 refine Rets.intro fun P hP=>?_
 have ha:=sasks_c k
 have p0:¬ p = h.next:=by omega
 have p1:¬ p = h.next + 1:=by omega
 have q0:¬ h.next = p:=by omega
 have q1:¬ h.next + 1 = p:=by omega
 have n1:∀ (o:Option BL) (bad:Bool) (h':H),h'.f p = some (rB o bad)→W K 32 [.one (.ptr p 0 0),.one (.int .i64 1)] h' = some (.ret (.one (ii (rV o bad 1))) (h'.set p (rB (rO o bad 1) (noB o bad 1)))):=fun o bad h' hf=>number_t o bad 1 (by omega) hf
 have n2:∀ (o:Option BL) (bad:Bool) (h':H),h'.f p = some (rB o bad)→W K 32 [.one (.ptr p 0 0),.one (.int .i64 2)] h' = some (.ret (.one (ii (rV o bad 2))) (h'.set p (rB (rO o bad 2) (noB o bad 2)))):=fun o bad h' hf=>number_t o bad 2 (by omega) hf
 have nr:∀ (o:Option BL) (bad:Bool) (n:Nat) (h':H),h'.f p = some (rB o bad)→W K 50 [.one (.ptr p 0 0),.one (ii n)] h' = some (.ret (.one (bs (rX o bad n))) (h'.set p (rB (rO o bad n) (noB o bad n)))):=fun o bad n h' hf=>raw_t o bad n hf
 have hc:∀ (o:Option BL) (bad:Bool) (n:Nat),n < 65536→∀ h,W K 51 [.one (bs (rX o bad n))] h = some (.ret (.one (bs (rX o bad n))) h):=fun o bad n hn h=>(clone_g (rX o bad n) (by have:=rX_len o bad n;omega)).pure hp h
 have hP':∀ h',h'.f p = some (rB (itM k o bad).2.1 (itM k o bad).2.2)→h.next ≤ h'.next→(∀ b,b < h.next→b ≠ p→h'.f b = h.f b)→P (.agg (encItem (itM k o bad).1)) h':=fun h' a b c=>hP _ _ ⟨rfl,a,b,c⟩
 clear hP
 simp only [rB] at *
 rcases kinds k with rfl | rfl | rfl | rfl | rfl | rfl | rfl | rfl | hk9
 rotate_right
 ·omega
 all_goals simp only [itM,itQ,st1,asG,asC,asN,asB,asK,encItem] at hP' ha
 all_goals simp [bs_none] at hP' ha
 ·have m1:=n1 o bad
  have m2:=n1 (rO o bad 1) (noB o bad 1)
  have m3:=n2 (rO (rO o bad 1) (noB o bad 1) 1) (noB (rO o bad 1) (noB o bad 1) 1)
  refine W_doesQ hp rfl rfl rfl Tryz.func33 rfl (by simp [Tryz.f33]) ?_
  simp only [Tryz.f33]
  refine hide ?_;intro Q1 hQ1
  repeat' (first
   | (replace hQ1:=hQ1;simp [ha,hf,p0,p1,q0,q1,m1,m2,m3])
   | refine hQ1 _ _ _ ?_
   | (first | apply cF | apply wN | apply wS) <;> intro hcnd <;> (try simp only [hcnd]) <;> (try simp [-List.isEmpty_iff,-List.isEmpty_eq_false_iff] at hcnd))
  all_goals first | omega | (refine hP' _ (by simp [p0,p1,q0,q1,hf]) (by simp <;> omega) fun b hb hbp=>?_;have b0:¬ b = h.next:=(by omega);have b1:¬ b = h.next + 1:=(by omega);simp [b0,b1,hbp]) | trace_state
 ·have m1:=n2 o bad
  refine W_doesQ hp rfl rfl rfl Tryz.func33 rfl (by simp [Tryz.f33]) ?_
  simp only [Tryz.f33]
  refine hide ?_;intro Q2 hQ2
  repeat' (first
   | (replace hQ2:=hQ2;simp [ha,hf,p0,p1,q0,q1,m1])
   | refine hQ2 _ _ _ ?_
   | (first | apply cF | apply wN | apply wS) <;> intro hcnd <;> (try simp only [hcnd]) <;> (try simp [-List.isEmpty_iff,-List.isEmpty_eq_false_iff] at hcnd))
  all_goals first | omega | (refine hP' _ (by simp [p0,p1,q0,q1,hf]) (by simp <;> omega) fun b hb hbp=>?_;have b0:¬ b = h.next:=(by omega);have b1:¬ b = h.next + 1:=(by omega);simp [b0,b1,hbp]) | trace_state
 ·have m1:=n2 o bad
  refine W_doesQ hp rfl rfl rfl Tryz.func33 rfl (by simp [Tryz.f33]) ?_
  simp only [Tryz.f33]
  refine hide ?_;intro Q3 hQ3
  repeat' (first
   | (replace hQ3:=hQ3;simp [ha,hf,p0,p1,q0,q1,m1])
   | refine hQ3 _ _ _ ?_
   | (first | apply cF | apply wN | apply wS) <;> intro hcnd <;> (try simp only [hcnd]) <;> (try simp [-List.isEmpty_iff,-List.isEmpty_eq_false_iff] at hcnd))
  all_goals first | omega | (refine hP' _ (by simp [p0,p1,q0,q1,hf]) (by simp <;> omega) fun b hb hbp=>?_;have b0:¬ b = h.next:=(by omega);have b1:¬ b = h.next + 1:=(by omega);simp [b0,b1,hbp]) | trace_state
 ·have m1:=n2 o bad
  refine W_doesQ hp rfl rfl rfl Tryz.func33 rfl (by simp [Tryz.f33]) ?_
  simp only [Tryz.f33]
  refine hide ?_;intro Q4 hQ4
  repeat' (first
   | (replace hQ4:=hQ4;simp [ha,hf,p0,p1,q0,q1,m1])
   | refine hQ4 _ _ _ ?_
   | (first | apply cF | apply wN | apply wS) <;> intro hcnd <;> (try simp only [hcnd]) <;> (try simp [-List.isEmpty_iff,-List.isEmpty_eq_false_iff] at hcnd))
  all_goals first | omega | (refine hP' _ (by simp [p0,p1,q0,q1,hf]) (by simp <;> omega) fun b hb hbp=>?_;have b0:¬ b = h.next:=(by omega);have b1:¬ b = h.next + 1:=(by omega);simp [b0,b1,hbp]) | trace_state
 ·have m1:=n1 o bad
  have m2:=n2 (rO o bad 1) (noB o bad 1)
  refine W_doesQ hp rfl rfl rfl Tryz.func33 rfl (by simp [Tryz.f33]) ?_
  simp only [Tryz.f33]
  refine hide ?_;intro Q5 hQ5
  repeat' (first
   | (replace hQ5:=hQ5;simp [ha,hf,p0,p1,q0,q1,m1,m2])
   | refine hQ5 _ _ _ ?_
   | (first | apply cF | apply wN | apply wS) <;> intro hcnd <;> (try simp only [hcnd]) <;> (try simp [-List.isEmpty_iff,-List.isEmpty_eq_false_iff] at hcnd))
  all_goals first | omega | (refine hP' _ (by simp [p0,p1,q0,q1,hf]) (by simp <;> omega) fun b hb hbp=>?_;have b0:¬ b = h.next:=(by omega);have b1:¬ b = h.next + 1:=(by omega);simp [b0,b1,hbp]) | trace_state
 ·have m1:=n1 o bad
  have m2:=n2 (rO o bad 1) (noB o bad 1)
  have m3:=nr (rO (rO o bad 1) (noB o bad 1) 2) (noB (rO o bad 1) (noB o bad 1) 2) (rV (rO o bad 1) (noB o bad 1) 2)
  have m4:=hc (rO (rO o bad 1) (noB o bad 1) 2) (noB (rO o bad 1) (noB o bad 1) 2) (rV (rO o bad 1) (noB o bad 1) 2) (rV_lt _ _ 2 (by omega))
  refine W_doesQ hp rfl rfl rfl Tryz.func33 rfl (by simp [Tryz.f33]) ?_
  simp only [Tryz.f33]
  refine hide ?_;intro Q6 hQ6
  repeat' (first
   | (replace hQ6:=hQ6;simp [ha,hf,p0,p1,q0,q1,m1,m2,m3,m4])
   | refine hQ6 _ _ _ ?_
   | (first | apply cF | apply wN | apply wS) <;> intro hcnd <;> (try simp only [hcnd]) <;> (try simp [-List.isEmpty_iff,-List.isEmpty_eq_false_iff] at hcnd))
  all_goals first | omega | (refine hP' _ (by simp [p0,p1,q0,q1,hf]) (by simp <;> omega) fun b hb hbp=>?_;have b0:¬ b = h.next:=(by omega);have b1:¬ b = h.next + 1:=(by omega);simp [b0,b1,hbp]) | trace_state
 ·have m1:=n2 o bad
  have m2:=nr (rO o bad 2) (noB o bad 2) (rV o bad 2)
  have m3:=hc (rO o bad 2) (noB o bad 2) (rV o bad 2) (rV_lt _ _ 2 (by omega))
  refine W_doesQ hp rfl rfl rfl Tryz.func33 rfl (by simp [Tryz.f33]) ?_
  simp only [Tryz.f33]
  refine hide ?_;intro Q7 hQ7
  repeat' (first
   | (replace hQ7:=hQ7;simp [ha,hf,p0,p1,q0,q1,m1,m2,m3])
   | refine hQ7 _ _ _ ?_
   | (first | apply cF | apply wN | apply wS) <;> intro hcnd <;> (try simp only [hcnd]) <;> (try simp [-List.isEmpty_iff,-List.isEmpty_eq_false_iff] at hcnd))
  all_goals first | omega | (refine hP' _ (by simp [p0,p1,q0,q1,hf]) (by simp <;> omega) fun b hb hbp=>?_;have b0:¬ b = h.next:=(by omega);have b1:¬ b = h.next + 1:=(by omega);simp [b0,b1,hbp]) | trace_state
 ·refine W_doesQ hp rfl rfl rfl Tryz.func33 rfl (by simp [Tryz.f33]) ?_
  simp only [Tryz.f33]
  refine hide ?_;intro Q8 hQ8
  repeat' (first
   | (replace hQ8:=hQ8;simp [ha,hf,p0,p1,q0,q1])
   | refine hQ8 _ _ _ ?_
   | (first | apply cF | apply wN | apply wS) <;> intro hcnd <;> (try simp only [hcnd]) <;> (try simp [-List.isEmpty_iff,-List.isEmpty_eq_false_iff] at hcnd))
  all_goals first | omega | (refine hP' _ (by simp [p0,p1,q0,q1,hf]) (by simp <;> omega) fun b hb hbp=>?_;have b0:¬ b = h.next:=(by omega);have b1:¬ b = h.next + 1:=(by omega);simp [b0,b1,hbp]) | trace_state
def itemW (x:ShellPlain.It):Wm.Item:=⟨x.k,x.g,x.n,x.c,if x.k = 6 ∨ x.k = 7 then some x.b else none⟩
theorem numB_two (a b:UInt8):numB [a,b] = a.toNat * 256 + b.toNat:=by simp [numB]
theorem itM_some {k:Int} (hk:1 ≤ k∧k ≤ 8) {l r':BL} {x:ShellPlain.It} (h:ShellPlain.item k.toNat l = some (x,r')):itM k (some l) false = (itemW x,some r',false):=by
 have z2:∀ n:Nat,¬ n + 1 + 1 < 2:=by omega
 have z3:∀ n:Nat,¬ n + 1 + 1 + 1 < 2:=by omega
 have z4:∀ n:Nat,¬ n + 1 + 1 + 1 + 1 < 2:=by omega
 rcases kinds k with rfl | rfl | rfl | rfl | rfl | rfl | rfl | rfl | hk9
 rotate_right
 ·omega
 all_goals
  unfold ShellPlain.item at h
  rcases l with _ | ⟨a,_ | ⟨b,_ | ⟨c,_ | ⟨d,r⟩⟩⟩⟩
 all_goals simp [ShellPlain.int2] at h
 all_goals first
  | (obtain ⟨rfl,rfl⟩:=h;simp [itM,itQ,st1,asG,asC,asN,asB,rV,rX,rO,noB,numB_one,numB_two,itemW,z2,z3,z4];done)
  | (obtain ⟨⟨h0,h1⟩,rfl,rfl⟩:=h;simp [itM,itQ,st1,asG,asC,asN,asB,rV,rX,rO,noB,numB_one,numB_two,itemW,z2,z3,z4,h0,h1];done)
  | (obtain ⟨h0,rfl,rfl⟩:=h;simp [itM,itQ,st1,asG,asC,asN,asB,rV,rX,rO,noB,numB_one,numB_two,itemW,z2,z3,z4,h0];done)
  | trace_state
theorem itM_none {k:Int} (hk:1 ≤ k∧k ≤ 8) {l:BL} (h:ShellPlain.item k.toNat l = none):(itM k (some l) false).2 = (none,true):=by
 have z2:∀ n:Nat,¬ n + 1 + 1 < 2:=by omega
 have z3:∀ n:Nat,¬ n + 1 + 1 + 1 < 2:=by omega
 have z4:∀ n:Nat,¬ n + 1 + 1 + 1 + 1 < 2:=by omega
 rcases kinds k with rfl | rfl | rfl | rfl | rfl | rfl | rfl | rfl | hk9
 rotate_right
 ·omega
 all_goals
  unfold ShellPlain.item at h
  rcases l with _ | ⟨a,_ | ⟨b,_ | ⟨c,_ | ⟨d,r⟩⟩⟩⟩
 all_goals simp at h
 all_goals first
  | (simp [itM,itQ,st1,asG,asC,asN,asB,rV,rX,rO,noB,numB_one,numB_two,z2,z3,z4];done)
  | (simp [itM,itQ,st1,asG,asC,asN,asB,rV,rX,rO,noB,numB_one,numB_two,z2,z3,z4,h];done)
  | (simp [itM,itQ,st1,asG,asC,asN,asB,rV,rX,rO,noB,numB_one,numB_two,z2,z3,z4];omega)
  | trace_state
end Go.Proofs.YtofafocfemikcaaGreat
