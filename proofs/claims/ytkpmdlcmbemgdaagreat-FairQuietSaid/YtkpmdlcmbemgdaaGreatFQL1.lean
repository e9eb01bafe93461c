/- A part of a proof over the abstract machine. No conditions. -/
import Derived.Test.YtkpmdlcmbemgdaaGreatFQ0
set_option linter.unusedSimpArgs false
set_option linter.unusedVariables false
namespace Go.Proofs.YtkpmdlcmbemgdaaGreat
open Go Go.Ab Go.Fa
theorem findB_pick {l:List (Nat × Blk)} {ids:List Nat} (b:Nat):findB (pickB l ids++l) b = findB l b:=by
 rw [findB_app]
 split
 ·rename_i q hq;exact (pickB_ok hq).symm
 ·rfl
theorem mV_ints {ρ:Nat→Nat} (a b c:Nat):[AV.agg [i a,i b,i c]].map (mV ρ) = [.agg [i a,i b,i c]]:=by simp [mV,mL,mS,i]
def Kept (n:Nat) (ρ:Nat→Nat) (h h':H):Prop:=h.next ≤ h'.next∧∀ b,b < h.next→(∀ a,a < n→ρ a ≠ b)→h'.f b = h.f b
theorem Kept.refl (n:Nat) (ρ:Nat→Nat) (h:H):Kept n ρ h h:=⟨Nat.le_refl _,fun _ _ _=>rfl⟩
theorem Kept.trans {n:Nat} {ρ:Nat→Nat} {h h1 h2:H} (a:Kept n ρ h h1) (b:Kept n ρ h1 h2):Kept n ρ h h2 :=
 ⟨Nat.le_trans a.1 b.1,fun x hx hn=>by rw [b.2 x (Nat.lt_of_lt_of_le hx a.1) hn,a.2 x hx hn]⟩
def Go (G N C n:Nat) (A A':(Nat→Nat)→H→Prop):Prop:=∀ ρ h,A ρ h→∃ s hR v h' ρ',W K 7 [.agg [i G,i N,i C]] h = some (.ret (.one s) hR)∧W K 6 [.one (.ptr (ρ 4) 0 0),.one s] hR = some (.ret v h') ∧
 A' ρ' h'∧(∀ b,b < n→ρ' b = ρ b)∧(∀ b,n ≤ b→h.next ≤ ρ' b)∧Kept n ρ h h'
theorem go_of {G N C lb lv ln rn next:Nat} {it:Blk} {V:View} {un bs:List Nat} {wt r:List (Nat × Blk)} {x:AV}
  (hR:callW S 2000 200 7 [.agg [i G,i N,i C]] ⟨0,[]⟩ [] rn [(lb,it)] [] = some (.one (u lb lv 0 ln 5),[]))
  (hU:callW S 2000 200 6 [.one (p 4),.one (u V.next lv 0 ln 5)] ⟨V.next + 1,(V.next,it)::V.l⟩ un next wt bs = some (x,r))
  (hlb:lb < rn) (hit:scL 0 it.cells = true) (h4:4 < V.next) (hs:scW next (r++wt) = true):Go G N C V.next (At V) (At ⟨next,r++(wt++((V.next,it)::V.l))⟩):=by
 intro ρ h A
 have hitn:scL rn it.cells = true∧True:=⟨?_,trivial⟩
 ·obtain ⟨h1,ρ1,e1,A1,_,n1,f1,k1⟩:=call_at S_ok hRn hR (scW_ok (by simp [scW,hitn.1,Nat.blt_eq,hlb])) (At.none ρ h)
  rw [mV_ints] at e1
  have e1':mV ρ1 (.one (u lb lv 0 ln 5)) = .one (.slc (ρ1 lb) lv 0 ln 5 none):=by simp [mV,mS,u]
  rw [e1'] at e1
  obtain ⟨_,sc,b1⟩:=A1.f lb it (by simp [findB])
  have kp:∀ b,b < h.next→h1.f b = h.f b:=fun b hb=>k1 b hb fun a ha=>absurd ha (Nat.not_lt_zero a)
  have A2:At V ρ h1:=A.keep n1 fun b hb=>kp _ (A.lt b hb)
  have hb1:h.next ≤ ρ1 lb:=f1 lb (Nat.zero_le _)
  have b1':h1.f (ρ1 lb) = some it:=by
   rw [b1,sc_of hit ρ1 id fun b hb=>absurd hb (Nat.not_lt_zero b)]
   cases it with
   | mk a1 a2 a3 a4=>unfold mB;rw [At.add.mid]
  obtain ⟨ρ2,A3,r2,r3⟩:=A2.add (c:=ρ1 lb) (A1.lt lb hlb) (fun a ha he=>by have:=A.lt a ha;omega) b1' hit
  obtain ⟨h2,ρ3,e2,A4,r4,n2,f2,k2⟩:=call_at S_ok hRn hU (scW_ok hs) A3
  have e2':[AV.one (p 4),.one (u V.next lv 0 ln 5)].map (mV ρ2) = [.one (.ptr (ρ 4) 0 0),.one (.slc (ρ1 lb) lv 0 ln 5 none)]:=by
   simp [mV,mS,u,p,r3,r2 4 h4]
  rw [e2'] at e2
  refine ⟨_,h1,_,h2,ρ3,e1,e2,A4,fun b hb=>by rw [r4 b (by show b < V.next + 1;omega),r2 b hb],fun b hb=>?_,by omega,fun b hb hne=>?_⟩
  ·rcases Nat.lt_or_ge V.next b with hb' | hb'
   ·have:=f2 b (by show V.next + 1 ≤ b;omega);omega
   ·have:b = V.next:=by omega
    subst this
    rw [r4 V.next (by show V.next < V.next + 1;omega),r3];exact hb1
  ·rw [k2 b (by omega) fun a ha he=>?_,kp b hb]
   have ha:a < V.next + 1:=ha
   rcases Nat.lt_or_ge a V.next with h5 | h5
   ·rw [r2 a h5] at he;exact hne a h5 he
   ·have:a = V.next:=by omega
    subst this
    rw [r3] at he;omega
 ·-- what names nothing names nothing below any number
  have key:∀ n,scL n it.cells = true:=by
   intro n
   have mono:∀ (a:AS),scS 0 a = true→scS n a = true:=by
    intro a
    exact (AS.rec (motive_1:=fun a=>scS 0 a = true→scS n a = true) (motive_2:=fun l=>scL 0 l = true→scL n l = true) (by intro b _;rfl) (by intro k m _;rfl) (by intro b _;rfl) (fun _=>rfl) (fun _=>rfl) (fun _=>rfl) (by intro s _;rfl) (fun _=>rfl)
     (by intro b v o hh;rw [scS] at hh;exact absurd (Nat.blt_eq.mp hh) (Nat.not_lt_zero b)) (by intro l o ih hh;rw [scS] at hh ⊢;exact ih hh) (fun _=>rfl) (by intro b v o k s c hh;rw [scS] at hh;exact absurd (Nat.blt_eq.mp hh) (Nat.not_lt_zero b)) (by intro m s l ih hh;rw [scS] at hh ⊢;exact ih hh)
     (by intro f a b ih1 ih2 hh;rw [scS] at hh ⊢;obtain ⟨q1,q2⟩:=band hh;rw [ih1 q1,ih2 q2];rfl) (fun _=>rfl) (by intro t v ih hh;rw [scS] at hh ⊢;exact ih hh) (fun _=>rfl)
     (fun _=>rfl) (by intro a l ih1 ih2 hh;rw [scL] at hh ⊢;obtain ⟨q1,q2⟩:=band hh;rw [ih1 q1,ih2 q2];rfl) a)
   have:∀ l:List AS,scL 0 l = true→scL n l = true:=by
    intro l
    induction l with
    | nil=>intro _;rfl
    | cons a l ih=>intro hh;rw [scL] at hh ⊢;obtain ⟨q1,q2⟩:=band hh;rw [mono a q1,ih q2];rfl
   exact this _ hit
  exact key rn
def Asks (n f:Nat) (A:(Nat→Nat)→H→Prop) (args:(Nat→Nat)→List AV) (v:(Nat→Nat)→AV):Prop:=∀ ρ h,A ρ h→∃ h',W K f (args ρ) h = some (.ret (v ρ) h')∧A ρ h'∧Kept n ρ h h'
theorem asks_of {f next:Nat} {args:List AV} {V:View} {un bs:List Nat} {x:AV} (hr:callW S 2000 200 f args V un next [] bs = some (x,pickB V.l bs)) (hV:scW V.next V.l = true) (hx:∀ ρ ρ':Nat→Nat,(∀ b,b < V.next→ρ b = ρ' b)→mV ρ x = mV ρ' x):Asks V.next f (At V) (fun ρ=>args.map (mV ρ)) (fun ρ=>mV ρ x):=by
 intro ρ h A
 have hn:=(callW_ok S_ok hr).1
 obtain ⟨h1,ρ1,e1,A1,r1,n1,f1,k1⟩:=call_at S_ok hRn hr (fun b k hk=>by
  rw [List.append_nil] at hk
  obtain ⟨q1,q2⟩:=scW_ok hV b k (pickB_ok hk)
  exact ⟨Nat.lt_of_lt_of_le q1 hn,q2.mono hn⟩) A
 rw [hx ρ1 ρ r1] at e1
 refine ⟨h1,e1,(A1.less hn hV fun b k hk=>?_).congr fun b hb=>(r1 b hb).symm,n1,k1⟩
 show findB (pickB V.l bs++([]++V.l)) b = _
 rw [List.nil_append,findB_pick];exact hk
theorem known_c {f next:Nat} (hr:callW S 2000 200 f [] ⟨0,[]⟩ [] next [] [] = some (.one (.bool true),[])) (h:H):∃ h',W K f [] h = some (.ret (.one (.bool true)) h')∧h.next ≤ h'.next∧∀ b,b < h.next→h'.f b = h.f b:=by
 obtain ⟨h1,ρ1,e1,A1,_,n1,f1,k1⟩:=call_at S_ok hRn hr (fun b k hk=>by cases hk) (At.none id h)
 exact ⟨h1,e1,n1,fun b hb=>k1 b hb fun a ha=>absurd ha (Nat.not_lt_zero a)⟩
end Go.Proofs.YtkpmdlcmbemgdaaGreat
