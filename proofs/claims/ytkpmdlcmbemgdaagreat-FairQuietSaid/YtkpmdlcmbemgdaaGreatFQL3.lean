/- A part of a proof over the abstract machine. No conditions. -/
import Derived.Test.YtkpmdlcmbemgdaaGreatFQL2
import Derived.Test.YtkpmdlcmbemgdaaGreatFQC
set_option linter.unusedSimpArgs false
set_option linter.unnecessarySimpa false
set_option linter.unusedVariables false
namespace Go.Proofs.YtkpmdlcmbemgdaaGreat
open Go Go.Ab Go.Fa Wm
set_option maxRecDepth 10000
set_option maxHeartbeats 4000000
section
variable {G N C:Nat} {V0 V1 V2:View} {V:(Nat→Int)→View} {n:Nat} {ld bl rp:Nat→Nat}
def Stg (V0 V1 V2:View) (V:(Nat→Int)→View) (n:Nat):Nat→Nat→(Nat→Nat)→H→Prop
 | 0,m,ρ,h=>m = V0.next∧At V0 ρ h
 | 1,m,ρ,h=>m = V1.next∧At V1 ρ h
 | 2,m,ρ,h=>m = V2.next∧At V2 ρ h
 | _,m,ρ,h=>m = n∧Std V ρ h
def Inv (V0 V1 V2:View) (V:(Nat→Int)→View) (n w B:Nat) (hB:H) (k:Nat) (hh:H):Prop :=
 ∃ m ρ,Stg V0 V1 V2 V n k m ρ hh∧ρ 4 = w∧(∀ a,B ≤ ρ a)∧B ≤ hh.next∧∀ b,b < B→hh.f b = hB.f b
theorem stg_go (q:Qt G N C V0 V1 V2 V n ld bl rp) {k m:Nat} {ρ:Nat→Nat} {h:H} (s:Stg V0 V1 V2 V n k m ρ h):∃ s hR v h' ρ' m',W K 7 [.agg [i G,i N,i C]] h = some (.ret (.one s) hR)∧W K 6 [.one (.ptr (ρ 4) 0 0),.one s] hR = some (.ret v h') ∧
  Stg V0 V1 V2 V n (k + 1) m' ρ' h'∧4 < m∧(∀ b,b < m→ρ' b = ρ b)∧(∀ b,m ≤ b→h.next ≤ ρ' b)∧Kept m ρ h h':=by
 have hf:=q.four
 match k,s with
 | 0,⟨hm,A⟩ =>
  subst hm
  obtain ⟨s,hR,v,h',ρ',e1,e2,A',r⟩:=q.go0 ρ h A
  exact ⟨s,hR,v,h',ρ',_,e1,e2,⟨rfl,A'⟩,by omega,r⟩
 | 1,⟨hm,A⟩ =>
  subst hm
  obtain ⟨s,hR,v,h',ρ',e1,e2,A',r⟩:=q.go1 ρ h A
  exact ⟨s,hR,v,h',ρ',_,e1,e2,⟨rfl,A'⟩,by omega,r⟩
 | 2,⟨hm,A⟩ =>
  subst hm
  obtain ⟨s,hR,v,h',ρ',e1,e2,A',r⟩:=q.go2 ρ h A
  exact ⟨s,hR,v,h',ρ',_,e1,e2,⟨rfl,A'⟩,by omega,r⟩
 | k + 3,⟨hm,A⟩ =>
  subst hm
  obtain ⟨s,hR,v,h',ρ',e1,e2,A',r⟩:=q.go ρ h A
  exact ⟨s,hR,v,h',ρ',_,e1,e2,⟨rfl,A'⟩,by omega,r⟩
theorem inv_go (q:Qt G N C V0 V1 V2 V n ld bl rp) {w B k:Nat} {hB h:H} (s:Inv V0 V1 V2 V n w B hB k h):∃ s hR v h',W K 7 [.agg [ii G,ii N,ii C]] h = some (.ret (.one s) hR)∧W K 6 [.one (.ptr w 0 0),.one s] hR = some (.ret v h')∧Inv V0 V1 V2 V n w B hB (k + 1) h':=by
 obtain ⟨m,ρ,st,rfl,hb,hn,hk⟩:=s
 obtain ⟨s,hR,v,h',ρ',m',e1,e2,st',h4,r1,r2,kp⟩:=stg_go q st
 refine ⟨s,hR,v,h',e1,e2,m',ρ',st',r1 4 h4,fun a=>?_,Nat.le_trans hn kp.1,fun b hb'=>?_⟩
 ·rcases Nat.lt_or_ge a m with h1 | h1
  ·rw [r1 a h1];exact hb a
  ·have:=r2 a h1;omega
 ·rw [kp.2 b (by omega) fun a _ he=>by have:=hb a;omega]
  exact hk b hb'
theorem std_go (q:Qt G N C V0 V1 V2 V n ld bl rp) {ρ:Nat→Nat} {h:H} (hV:∀ x,(V x).next = n) (s:Std V ρ h):∃ s hR v h',W K 7 [.agg [ii G,ii N,ii C]] h = some (.ret (.one s) hR)∧W K 6 [.one (.ptr (ρ 4) 0 0),.one s] hR = some (.ret v h')∧Std V ρ h'∧Kept n ρ h h':=by
 obtain ⟨s,hR,v,h',ρ',e1,e2,⟨x,A'⟩,r1,r2,kp⟩:=q.go ρ h s
 exact ⟨s,hR,v,h',e1,e2,⟨x,A'.congr fun b hb=>(r1 b (by rw [← hV x];exact hb)).symm⟩,kp⟩
theorem std_next {ρ:Nat→Nat} {h:H} (hV:∀ x,(V x).next = n) (s:Std V ρ h) {a:Nat} (ha:a < n):ρ a < h.next:=by
 obtain ⟨x,A⟩:=s
 exact A.lt a (by rw [hV x];exact ha)
theorem Std.keep {ρ:Nat→Nat} {h h':H} (hV:∀ x,(V x).next = n) (s:Std V ρ h) (hn:h.next ≤ h'.next) (hf:∀ b,b < n→h'.f (ρ b) = h.f (ρ b)):Std V ρ h':=by
 obtain ⟨x,A⟩:=s
 exact ⟨x,A.keep hn fun b hb=>hf b (by rw [← hV x];exact hb)⟩
theorem group_c (q:Qt G N C V0 V1 V2 V n ld bl rp) {ρ:Nat→Nat} {h:H} (s:Std V ρ h) {k:Nat} (hk:k ≤ G):∃ h1 h2 h3 h4,W K 9 [.one (.ptr (ρ 4) 0 0),.one (ii k)] h = some (.ret (.tup [(false,[ii (ld k)]),(false,[.bool true])]) h1) ∧
  W K 10 [.one (.ptr (ρ 4) 0 0),.one (ii k),.one (ii (ld k))] h1 = some (.ret (.one (.ptr (ρ (rp k)) 0 0)) h2)∧W K 11 [.one (.ptr (ρ (rp k)) 0 0)] h2 = some (.ret (.one (ii 0)) h3)∧W K 12 [.one (.ptr (ρ (rp k)) 0 0)] h3 = some (.ret (.one (ii (bl k))) h4) ∧
  Kept n ρ h h1∧Kept n ρ h h2∧Kept n ρ h h3∧Kept n ρ h h4∧Std V ρ h4:=by
 obtain ⟨h1,e1,s1,k1⟩:=q.leader k hk ρ h s
 obtain ⟨h2,e2,s2,k2⟩:=q.replica k hk ρ h1 s1
 obtain ⟨h3,e3,s3,k3⟩:=q.done k hk ρ h2 s2
 obtain ⟨h4,e4,s4,k4⟩:=q.ballot k hk ρ h3 s3
 refine ⟨h1,h2,h3,h4, ?_, ?_, ?_, ?_,k1,k1.trans k2,(k1.trans k2).trans k3,((k1.trans k2).trans k3).trans k4,s4⟩
 ·simpa [mV,mL,mS,i,p] using e1
 ·simpa [mV,mL,mS,i,p] using e2
 ·simpa [mV,mL,mS,i,p] using e3
 ·simpa [mV,mL,mS,i,p] using e4
theorem group2_c (q:Qt G N C V0 V1 V2 V n ld bl rp) {ρ:Nat→Nat} {h:H} (s:Std V ρ h) {k:Nat} (hk:k ≤ G):∃ h1 h2 h3 h4,W K 9 [.one (.ptr (ρ 4) 0 0),.one (ii k)] h = some (.ret (.tup [(false,[ii (ld k)]),(false,[.bool true])]) h1) ∧
  W K 10 [.one (.ptr (ρ 4) 0 0),.one (ii k),.one (ii (ld k))] h1 = some (.ret (.one (.ptr (ρ (rp k)) 0 0)) h2)∧W K 12 [.one (.ptr (ρ (rp k)) 0 0)] h2 = some (.ret (.one (ii (bl k))) h3)∧W K 11 [.one (.ptr (ρ (rp k)) 0 0)] h3 = some (.ret (.one (ii 0)) h4) ∧
  Kept n ρ h h1∧Kept n ρ h h2∧Kept n ρ h h3∧Kept n ρ h h4∧Std V ρ h4:=by
 obtain ⟨h1,e1,s1,k1⟩:=q.leader k hk ρ h s
 obtain ⟨h2,e2,s2,k2⟩:=q.replica k hk ρ h1 s1
 obtain ⟨h3,e3,s3,k3⟩:=q.ballot k hk ρ h2 s2
 obtain ⟨h4,e4,s4,k4⟩:=q.done k hk ρ h3 s3
 refine ⟨h1,h2,h3,h4, ?_, ?_, ?_, ?_,k1,k1.trans k2,(k1.trans k2).trans k3,((k1.trans k2).trans k3).trans k4,s4⟩
 ·simpa [mV,mL,mS,i,p] using e1
 ·simpa [mV,mL,mS,i,p] using e2
 ·simpa [mV,mL,mS,i,p] using e3
 ·simpa [mV,mL,mS,i,p] using e4
end
def F4 (h:H) (b:Nat) (l:List AS):Prop:=h.f b = some ⟨0,[4],true,l⟩∧l.length = 4
theorem F4.write {h:H} {b:Nat} {l:List AS} (f:F4 h b l) {k:Nat} (hk:k < 4) (x:AS):writeC h (.ptr b 0 k) [x] = some (h.set b ⟨0,[4],true,l.set k x⟩)∧F4 (h.set b ⟨0,[4],true,l.set k x⟩) b (l.set k x):=by
 obtain ⟨f1,f2⟩:=f
 refine ⟨?_,by simp [H.set],by simpa using f2⟩
 have hl:lay l k [x] = l.set k x:=by
  simp only [lay,List.length_singleton]
  rw [List.set_eq_take_append_cons_drop,if_pos (by omega)]
  rfl
 simp only [writeC,f1,oqE,oqS,Blk.ext,hl]
 simp [f2];omega
theorem F4.read {h:H} {b:Nat} {l:List AS} (f:F4 h b l) {k:Nat} (hk:k < 4) {x:AS} (hx:l[k]? = some x):readC h (.ptr b 0 k) 1 = some [x]:=by
 obtain ⟨f1,f2⟩:=f
 simp only [readC,f1,oqE,oqS,Blk.ext,sub]
 have h1:k + 1 ≤ 4:=by omega
 have h2:k < l.length:=by omega
 have h3:l[k] = x:=by rw [List.getElem?_eq_getElem h2] at hx;exact Option.some.inj hx
 simp [h1,f2]
 rw [List.drop_eq_getElem_cons h2,h3]
 rfl
end Go.Proofs.YtkpmdlcmbemgdaaGreat
