/- A part of a proof over the abstract machine. No conditions. -/
import Derived.Test.YtkpmdlcmbemgdaaGreatFQL1
set_option linter.unusedSimpArgs false
set_option linter.unusedVariables false
namespace Go.Proofs.YtkpmdlcmbemgdaaGreat
open Go Go.Ab Go.Fa
abbrev Ask (n f:Nat) (A:(Nat→Nat)→H→Prop) (args:List AV) (x:AV):Prop:=Asks n f A (fun ρ=>args.map (mV ρ)) (fun ρ=>mV ρ x)
def Std (V:(Nat→Int)→View) (ρ:Nat→Nat) (h:H):Prop:=∃ x,At (V x) ρ h
theorem ask_std {n f:Nat} {V:(Nat→Int)→View} {args:List AV} {v:AV} (hn:∀ x,(V x).next = n) (h:∀ x,Ask (V x).next f (At (V x)) args v):Ask n f (Std V) args v:=by
 rintro ρ hh ⟨x,A⟩
 obtain ⟨h',e,A',k⟩:=h x ρ hh A
 exact ⟨h',e,⟨x,A'⟩,by rw [← hn x];exact k⟩
theorem ak {n f next:Nat} {V:(Nat→Int)→View} {args:List AV} {un bs:List Nat} {v:AV} (hV:∀ x,(V x).next = n∧scW n (V x).l = true) (hr:∀ x,callW S 2000 200 f args (V x) un next [] bs = some (v,pickB (V x).l bs)) (hx:∀ ρ ρ':Nat→Nat,(∀ b,b < n→ρ b = ρ' b)→mV ρ v = mV ρ' v):Ask n f (Std V) args v :=
 ask_std (fun x=>(hV x).1) fun x=>asks_of (hr x) (by rw [(hV x).1];exact (hV x).2) fun ρ ρ' h=>hx ρ ρ' (by rw [← (hV x).1];exact h)
theorem yes_ρ {ρ ρ':Nat→Nat}:mV ρ (.one (.bool true)) = mV ρ' (.one (.bool true)):=by simp [mV,mS]
theorem int_ρ {ρ ρ':Nat→Nat} {k:Nat}:mV ρ (.one (i k)) = mV ρ' (.one (i k)):=by simp [mV,mS,i]
theorem nil_ρ {ρ ρ':Nat→Nat}:mV ρ (.one o) = mV ρ' (.one o):=by simp [mV,mS,o]
theorem two_ρ {ρ ρ':Nat→Nat} {k:Nat}:mV ρ (.tup [(false,[i k]),(false,[.bool true])]) = mV ρ' (.tup [(false,[i k]),(false,[.bool true])]):=by simp [mV,mL,mS,i]
theorem ptr_ρ {ρ ρ':Nat→Nat} {n k:Nat} (hk:Nat.blt k n = true) (h:∀ b,b < n→ρ b = ρ' b):mV ρ (.one (p k)) = mV ρ' (.one (p k)):=by simp [mV,mS,p,h k (blt_lt hk)]
theorem Go.weaken {G N C n:Nat} {A A' A'':(Nat→Nat)→H→Prop} (g:Go G N C n A A') (w:∀ ρ h,A' ρ h→A'' ρ h):Go G N C n A A'':=by
 intro ρ h a
 obtain ⟨s,hR,v,h',ρ',e1,e2,a',r⟩:=g ρ h a
 exact ⟨s,hR,v,h',ρ',e1,e2,w _ _ a',r⟩
structure Qt (G N C:Nat) (V0 V1 V2:View) (V:(Nat→Int)→View) (n:Nat) (ld bl rp:Nat→Nat):Prop where
 four:4 < V0.next∧V0.next ≤ V1.next∧V1.next ≤ V2.next∧V2.next ≤ n
 opened:∀ h,∃ h' ρ,W K 5 [.agg [i G,i N,i C]] h = some (.ret (.one (.ptr (ρ 4) 0 0)) h')∧At V0 ρ h'∧h.next ≤ h'.next∧(∀ b,b < h.next→h'.f b = h.f b)∧∀ a,h.next ≤ ρ a
 go0:Go G N C V0.next (At V0) (At V1)
 go1:Go G N C V1.next (At V1) (At V2)
 go2:Go G N C V2.next (At V2) (Std V)
 go:Go G N C n (Std V) (Std V)
 rlt:∀ q,q ≤ G→rp q < n
 settled:Ask n 8 (Std V) [.one (p 4)] (.one (.bool true))
 events:Ask n 14 (Std V) [.one (p 4)] (.one o)
 leader:∀ q,q ≤ G→Ask n 9 (Std V) [.one (p 4),.one (i q)] (.tup [(false,[i (ld q)]),(false,[.bool true])])
 replica:∀ q,q ≤ G→Ask n 10 (Std V) [.one (p 4),.one (i q),.one (i (ld q))] (.one (p (rp q)))
 done:∀ q,q ≤ G→Ask n 11 (Std V) [.one (p (rp q))] (.one (i 0))
 ballot:∀ q,q ≤ G→Ask n 12 (Std V) [.one (p (rp q))] (.one (i (bl q)))
theorem go_std {G N C lb lv ln rn next:Nat} {it:Blk} {V V3:View} {un:List Nat} {wt:List (Nat × Blk)} {x:AV} {xs:(Nat→Int)→List (Nat × Blk)} {x0:Nat→Int} {ids:List Nat}
  (hR:callW S 2000 200 7 [.agg [i G,i N,i C]] ⟨0,[]⟩ [] rn [(lb,it)] [] = some (.one (u lb lv 0 ln 5),[]))
  (hU:callW S 2000 200 6 [.one (p 4),.one (u V.next lv 0 ln 5)] ⟨V.next + 1,(V.next,it)::V.l⟩ un next wt [] = some (x,[]))
  (hlb:lb < rn) (hit:scL 0 it.cells = true) (h4:4 < V.next) (hs:scW next ([]++wt) = true)
  (h3:V3.l = wt++((V.next,it)::V.l)) (hx:xs x0 = pickB V3.l ids) (hs2:scW next (xs x0++V3.l) = true):Go G N C V.next (At V) (Std fun x=>⟨next,xs x++V3.l⟩):=by
 refine Go.weaken (go_of hR hU hlb hit h4 hs) fun ρ h A=>⟨x0,A.less (Nat.le_refl _) hs2 fun b k hk=>?_⟩
 have hk:findB (xs x0++V3.l) b = some k:=hk
 show findB (wt++((V.next,it)::V.l)) b = some k
 rw [hx,findB_pick] at hk
 rw [← h3];exact hk
theorem go_step {G N C lb lv ln rn n next:Nat} {it:Blk} {L:List (Nat × Blk)} {un ids:List Nat} {v:AV} {xs:(Nat→Int)→List (Nat × Blk)}
  (hR:callW S 2000 200 7 [.agg [i G,i N,i C]] ⟨0,[]⟩ [] rn [(lb,it)] [] = some (.one (u lb lv 0 ln 5),[]))
  (hU:∀ x:Nat→Int,callW S 2000 200 6 [.one (p 4),.one (u n lv 0 ln 5)] ⟨n + 1,(n,it)::(xs x++L)⟩ un next [] ids = some (v,xs fun q=>stepI (x q)))
  (hlb:lb < rn) (hit:scL 0 it.cells = true) (h4:4 < n) (hn:n ≤ next) (hs:∀ x,scW next (xs x++[]) = true) (hs2:∀ x,scW n (xs x++L) = true) (hi:∀ x,idsB (xs x) = ids):Go G N C n (Std fun x=>⟨n,xs x++L⟩) (Std fun x=>⟨n,xs x++L⟩):=by
 rintro ρ h ⟨x,A⟩
 obtain ⟨s,hR',v',h',ρ',e1,e2,A',r⟩:=go_of (V:=⟨n,xs x++L⟩) hR (hU x) hlb hit h4 (hs _) ρ h A
 refine ⟨s,hR',v',h',ρ',e1,e2,⟨fun q=>stepI (x q),A'.less hn (hs2 _) fun b k hk=>?_⟩,r⟩
 have hk:findB (xs (fun q=>stepI (x q))++L) b = some k:=hk
 show findB (xs (fun q=>stepI (x q))++([]++((n,it)::(xs x++L)))) b = some k
 rw [List.nil_append]
 have hb:b < n:=(scW_ok (hs2 fun q=>stepI (x q)) b k hk).1
 rw [findB_app] at hk ⊢
 split
 ·rename_i q hq;rw [hq] at hk;exact hk
 ·rename_i hq
  rw [hq] at hk
  rw [findB,if_neg (by show ¬ b = n;omega),findB_app]
  have:findB (xs x) b = none:=idsB_not (by rw [hi,← hi fun q=>stepI (x q)];exact idsB_has hq)
  rw [this];exact hk
theorem open_of {G N C next:Nat} {wt:List (Nat × Blk)} (hO:callW S 2000 200 5 [.agg [i G,i N,i C]] ⟨0,[]⟩ [] next wt [] = some (.one (p 4),[])) (hs:scW next ([]++wt) = true) :
  ∀ h,∃ h' ρ,W K 5 [.agg [i G,i N,i C]] h = some (.ret (.one (.ptr (ρ 4) 0 0)) h')∧At ⟨next,wt⟩ ρ h'∧h.next ≤ h'.next∧(∀ b,b < h.next→h'.f b = h.f b)∧∀ a,h.next ≤ ρ a:=by
 intro h
 obtain ⟨h1,ρ1,e1,A1,_,n1,f1,k1⟩:=call_at S_ok hRn hO (scW_ok hs) (At.none id h)
 rw [mV_ints] at e1
 have A2:At ⟨next,wt⟩ ρ1 h1:=A1.less (Nat.le_refl _) hs fun b k hk=>by
  show findB ([]++(wt++[])) b = some k
  rw [List.nil_append,List.append_nil];exact hk
 exact ⟨h1,ρ1,by simpa [mV,mS,p] using e1,A2,n1,fun b hb=>k1 b hb fun a ha=>absurd ha (Nat.not_lt_zero a),fun a=>f1 a (Nat.zero_le _)⟩
end Go.Proofs.YtkpmdlcmbemgdaaGreat
