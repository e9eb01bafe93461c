/- A part of a proof over the abstract machine. No conditions. -/
import Derived.Test.YtiagcnfmgigllaaGreatT1
set_option linter.unusedSimpArgs false
set_option linter.unnecessarySimpa false
set_option linter.unusedVariables false
namespace Go.Proofs.YtiagcnfmgigllaaGreat
open Go Go.Ab Wm NumPlain
set_option maxRecDepth 10000
set_option maxHeartbeats 4000000
theorem name_at {h:H} {b v:Nat} {l:List Named} {z:List AS} (ar:Arr h encNamed b v l z) {i:Nat} (hi:i < l.length):∃ fx ex M,h.f b = some ⟨v,M.length::ex,fx,M⟩∧i * 2 + 1 ≤ M.length∧sub M (i * 2) 1 = some [.str l[i].name]:=by
 obtain ⟨fx,ex,M,g4,_,_,g5,_⟩:=ar.cells len_named
 obtain ⟨g6,g7⟩:=g5 i hi
 exact ⟨fx,ex,M,g4,by omega,by have:=sub_part g7 (o:=0) (n:=1) (by omega);rw [Nat.add_zero] at this;rw [this];rfl⟩
theorem tjoin_c {h:H} {p1 p2:Nat} {a b:List Named} {q1 q2:Option Nat} (w:Bx h p1 2 encNamed a q1) (v:Bx h p2 2 encNamed b q2) (oka:TblOk a) (okb:TblOk b) :
  ∃ h',Kept h h'∧∃ r,W K 133 [.one (.ptr p1 0 0),.one (.ptr p2 0 0)] h = some (.ret (.tup [(false,[r]),(false,[ii (tjoin a b).2])]) h')∧((tjoin a b).2 = 0→∃ p q,r = .ptr p 0 0∧Bx h' p 2 encNamed (tjoin a b).1 q∧News h h' (p::q.toList)):=by
 have hla:=oka.len
 have hlb:=okb.len
 obtain ⟨w1,s,w2,w3,w4,w5⟩:=w
 obtain ⟨v1,t,v2,v3,v4,v5⟩:=v
 have hls:∀ (u:TypeId) (h':H),lenA s (some (.slice u)) h' = some (one (ii a.length) h'):=fun u h'=>lenA_sees h' u (w3.sees len_named) (by omega) (flat_length len_named a)
 have hlt:∀ (u:TypeId) (h':H),lenA t (some (.slice u)) h' = some (one (ii b.length) h'):=fun u h'=>lenA_sees h' u (v3.sees len_named) (by omega) (flat_length len_named b)
 obtain ⟨res,hres⟩:∃ res,tjoin a b = res:=⟨_,rfl⟩
 rw [hres]
 unfold tjoin at hres
 have hsum:IntKind.i64.wrap ((a.length:Int) + b.length) = (a.length:Int) + b.length:=wrap_i64 (by omega) (by omega)
 obtain ⟨s1,h1,c1,a1,a2,a3,a4⟩:=copies_c (w3.sees len_named) (fun x hx=>w3.lt hx) (by omega) (fun x hx=>okRow oka hx)
 rw [cpN_ok oka (fun x hx=>hx)] at a1
 have v3':Sl h1 2 encNamed t b:=v3.keep a4.1 fun x hx=>a4.2 x (v3.lt hx)
 obtain ⟨s2,h2,c2,b1,b2,b3,b4⟩:=copies_c (v3'.sees len_named) (fun x hx=>v3'.lt hx) (by omega) (fun x hx=>okRow okb hx)
 rw [cpN_ok okb (fun x hx=>hx)] at b1
 have w21:h1.f p1 = some ⟨0,[1],true,[s]⟩:=by rw [a4.2 p1 w1];exact w2
 have v21:h1.f p2 = some ⟨0,[1],true,[t]⟩:=by rw [a4.2 p2 v1];exact v2
 have n1:=a4.1
 have n2:=b4.1
 have a1':Sl h2 2 encNamed s1 a:=a1.keep n2 fun x hx=>b4.2 x (a1.lt hx)
 have gd:32 < a.length + b.length→decide ((32:Int) < (a.length:Int) + b.length) = true:=fun h=>by simp;omega
 have app:∃ s3 h3,appendA Tryz.prog 48 48 h2 s1 s2 = some (s3,h3)∧Sl h3 2 encNamed s3 (a++b)∧h2.next ≤ h3.next∧(∀ x,x < h2.next→ownB s1 ≠ some x→h3.f x = h2.f x)∧∀ x,ownB s3 = some x→h.next ≤ x:=by
  by_cases hb0:b = []
  ·subst hb0
   have hs2:s2 = .nilslc:=by rcases b2 with e | e;exact e;exact absurd rfl e
   subst hs2
   refine ⟨s1,h2, ?_,by simpa using a1',Nat.le_refl _,fun _ _ _=>rfl,a3⟩
   rw [append_slice (size:=2) (el:=83) (x:=.nilslc) (m:=0) (new:=[]) (u:=48) (by simp) (by simp) Tryz.bytes83 Tryz.underlying48 rfl rfl]
   rcases a1' with ⟨rfl,_⟩ | ⟨bb,vv,zz,rfl,_⟩ <;> simp [appendL]
  ·have hs2:∃ bb vv zz,s2 = .slc bb vv 0 b.length 2 none∧Arr h2 encNamed bb vv b zz:=by
    rcases b1 with ⟨_,e⟩ | x
    ·exact absurd e hb0
    ·exact x
   obtain ⟨bb,vv,zz,rfl,arb⟩:=hs2
   have hel:=arr_behind (l:=[]) len_named arb
   simp only [List.length_nil,Nat.zero_mul] at hel
   obtain ⟨s3,h3,e3,⟨b3,v3,z3,hs3,ar3⟩,k1,k2,k3⟩:=arr_append (P:=Tryz.prog) (t:=48) Tryz.underlying48 (by simp) (by simp) Tryz.bytes83 (by omega) len_named (a:=.slc bb vv 0 b.length 2 none) (m:=b) a1' rfl (by simp only [elemsOf,Nat.le_refl,and_self,if_true];exact hel) hb0 (by simp only [limit];omega)
   refine ⟨s3,h3,e3,.inr ⟨b3,v3,z3,hs3,ar3⟩,k1,k2,fun x hx=>?_⟩
   rcases k3 x hx with e | e
   ·exact a3 x e
   ·omega
 obtain ⟨s3,h3,e3,k0,k1,k2,k3⟩:=app
 have fin:Kept h (h3.new ⟨0,[1],true,[s3]⟩)∧Bx (h3.new ⟨0,[1],true,[s3]⟩) h3.next 2 encNamed (a++b) (ownB s3)∧News h (h3.new ⟨0,[1],true,[s3]⟩) (h3.next::(ownB s3).toList):=by
  refine ⟨⟨by simp;omega,fun x hx=>?_⟩,⟨by simp,s3,by simp,k0.keep (by simp) fun x hx=>new_f (by have:=k0.lt hx;omega),rfl,fun e=>by have:=k0.lt e;omega⟩, ?_⟩
  ·rw [new_f (by omega),k2 x (by omega) (fun e=>by have:=a3 x e;omega),b4.2 x (by omega),a4.2 x hx]
  ·cases ho:ownB s3 with
   | none=>exact ⟨by simp,fun x hx=>by simp at hx ⊢;omega⟩
   | some y =>
    have:=k3 y ho
    have:=k0.lt ho
    exact ⟨by simp;omega,fun x hx=>by simp at hx ⊢;omega⟩
 have hne1:(AS.ptr p1 0 0:AS) ≠ .nilptr:=by simp
 have test:∀ (ha0:0 < a.length) (hb0:0 < b.length),∃ b1 v1 z1 b2 v2 z2,s = .slc b1 v1 0 a.length 2 none∧t = .slc b2 v2 0 b.length 2 none∧Arr h encNamed b1 v1 a z1∧Arr h encNamed b2 v2 b z2:=by
  intro ha0 hb0
  rcases w3 with ⟨_,e⟩ | ⟨b1,v1,z1,e1,ar1⟩
  ·rw [e] at ha0;simp at ha0
  rcases v3 with ⟨_,e⟩ | ⟨b2,v2,z2,e2,ar2⟩
  ·rw [e] at hb0;simp at hb0
  exact ⟨b1,v1,z1,b2,v2,z2,e1,e2,ar1,ar2⟩
 by_cases ha0:a.length = 0
 ·have hal:a = []:=List.eq_nil_of_length_eq_zero ha0
  subst hal
  simp only [List.getLast?_nil,oqF,if_false] at hres
  rw [if_neg (by simp;omega)] at hres
  subst hres
  have g1:¬ (32:Int) < (b.length:Int):=by omega
  have hsum0:IntKind.i64.wrap (b.length:Int) = (b.length:Int):=wrap_i64 (by omega) (by omega)
  have g2:¬ 32 < b.length:=by omega
  have hls0:∀ (u:TypeId) (h':H),lenA s (some (.slice u)) h' = some (one (ii 0) h'):=hls
  refine ⟨_,fin.1,.ptr h3.next 0 0, ?_,fun _=>⟨_,_,rfl,fin.2⟩⟩
  refine W_does hp rfl rfl rfl Tryz.func133 rfl (by simp [Tryz.f133]) ?_
  simp only [Tryz.f133]
  refine hide ?_;intro Q1 hQ1
  repeat' (first
   | (replace hQ1:=hQ1;simp [bin,binI,ford,equalA,w2,v2,v21,hls0,hlt,hsum0,g1,c1,c2,e3])
   | refine hQ1 _ _ _ ?_
   | (first | refine dF (id:=4) [0,1,2,3,4,5,6,7,8,9,10,11,12,13,14,15,16,17,18,19,20,21,22,23,24,25,26,27,28] [] ?_ | refine dF (id:=8) [0,1,2,3,4,5,6,7,8,9,10,11,12,13,14] [(4,8)] ?_))
 ·have ha1:0 < a.length:=by omega
  have hg1:decide ((a.length:Int) > 0) = true:=by simp;omega
  have hsub:IntKind.i64.wrap ((a.length:Int) - 1) = ((a.length - 1:Nat):Int):=by rw [wrap_i64 (by omega) (by omega)];omega
  have hlast:a.getLast? = some a[a.length - 1]:=by rw [List.getLast?_eq_getElem?,List.getElem?_eq_getElem (by omega)]
  rw [hlast] at hres
  by_cases hb0:b.length = 0
  ·have hbl:b = []:=List.eq_nil_of_length_eq_zero hb0
   subst hbl
   simp only [List.head?_nil,oqF,if_false] at hres
   rw [if_neg (by simp;omega)] at hres
   subst hres
   have g1:¬ (32:Int) < (a.length:Int):=by omega
   have g2:¬ 32 < a.length:=by omega
   have hsum0:IntKind.i64.wrap (a.length:Int) = (a.length:Int):=wrap_i64 (by omega) (by omega)
   have hlt0:∀ (u:TypeId) (h':H),lenA t (some (.slice u)) h' = some (one (ii 0) h'):=hlt
   refine ⟨_,fin.1,.ptr h3.next 0 0, ?_,fun _=>⟨_,_,rfl,fin.2⟩⟩
   refine W_does hp rfl rfl rfl Tryz.func133 rfl (by simp [Tryz.f133]) ?_
   simp only [Tryz.f133]
   refine hide ?_;intro Q2 hQ2
   repeat' (first
    | (replace hQ2:=hQ2;simp [bin,binI,ford,equalA,w2,v2,v21,hls,hlt0,hsum0,g1,c1,c2,e3,ha1])
    | refine hQ2 _ _ _ ?_
    | (first | refine dF (id:=4) [0,1,2,3,4,5,6,7,8,9,10,11,12,13,14,15,16,17,18,19,20,21,22,23,24,25,26,27,28] [] ?_ | refine dF (id:=8) [0,1,2,3,4,5,6,7,8,9,10,11,12,13,14] [(4,8)] ?_))
  ·have hb1:0 < b.length:=by omega
   obtain ⟨b1',vv1,z1,b2',vv2,z2,rfl,rfl,ar1,ar2⟩:=test ha1 hb1
   obtain ⟨fx1,ex1,M1,m1,m2,m3⟩:=name_at ar1 (i:=a.length - 1) (by omega)
   obtain ⟨fx2,ex2,M2,m4,m5,m6⟩:=name_at ar2 (i:=0) hb1
   rw [Nat.zero_mul] at m5 m6
   have x1:=arr_index (P:=Tryz.prog) (size:=2) (b:=b1') (v:=vv1) (n:=a.length) (i:=a.length - 1) Tryz.underlying48 (by simp) (by omega) (by omega)
   have x2:=arr_index (P:=Tryz.prog) (size:=2) (b:=b2') (v:=vv2) (n:=b.length) (i:=0) Tryz.underlying48 (by simp) (by omega) hb1
   rw [Nat.zero_mul] at x2
   have hhead:b.head? = some b[0]:=by cases b with | nil=>simp at hb1 | cons y l=>rfl
   rw [hhead] at hres
   simp only at hres
   obtain ⟨N1,hN1⟩:∃ N1,a[a.length - 1].name = N1:=⟨_,rfl⟩
   obtain ⟨N2,hN2⟩:∃ N2,b[0].name = N2:=⟨_,rfl⟩
   simp only [hN1] at hres m3
   simp only [hN2] at hres m6
   clear hN1 hN2 hlast hhead
   generalize hal:a.length - 1 = al at *
   cases hlt2:Op.bytesLess N1 N2 with
   | false =>
    rw [if_pos (by simp [blt,hlt2])] at hres
    subst hres
    refine ⟨h,kept_refl h,.nilptr, ?_,fun e=>by simp at e⟩
    refine W_does hp rfl rfl rfl Tryz.func133 rfl (by simp [Tryz.f133]) ?_
    simp only [Tryz.f133]
    refine hide ?_;intro Q3 hQ3
    repeat' (first
     | (replace hQ3:=hQ3;simp [bin,binI,ford,equalA,strOp,w2,v2,hsub,ha1,hb1,x1,x2,m1,m2,m3,m4,m5,m6,hlt2])
     | refine hQ3 _ _ _ ?_
     | (first | refine dF (id:=4) [0,1,2,3,4,5,6,7,8,9,10,11,12,13,14,15,16,17,18,19,20,21,22,23,24,25,26,27,28] [] ?_ | refine dF (id:=8) [0,1,2,3,4,5,6,7,8,9,10,11,12,13,14] [(4,8)] ?_))
   | true =>
    rw [if_neg (by simp [blt,hlt2])] at hres
    by_cases g2:32 < a.length + b.length
    ·rw [if_pos g2] at hres
     subst hres
     have g1:(32:Int) < (a.length:Int) + b.length:=by omega
     refine ⟨h,kept_refl h,.nilptr, ?_,fun e=>by simp at e⟩
     refine W_does hp rfl rfl rfl Tryz.func133 rfl (by simp [Tryz.f133]) ?_
     simp only [Tryz.f133]
     refine hide ?_;intro Q4 hQ4
     repeat' (first
      | (replace hQ4:=hQ4;simp [bin,binI,ford,equalA,strOp,w2,v2,hsub,ha1,hb1,x1,x2,m1,m2,m3,m4,m5,m6,hlt2,hsum,g1])
      | refine hQ4 _ _ _ ?_
      | (first | refine dF (id:=4) [0,1,2,3,4,5,6,7,8,9,10,11,12,13,14,15,16,17,18,19,20,21,22,23,24,25,26,27,28] [] ?_ | refine dF (id:=8) [0,1,2,3,4,5,6,7,8,9,10,11,12,13,14] [(4,8)] ?_))
    ·rw [if_neg g2] at hres
     subst hres
     have g1:¬ (32:Int) < (a.length:Int) + b.length:=by omega
     refine ⟨_,fin.1,.ptr h3.next 0 0, ?_,fun _=>⟨_,_,rfl,fin.2⟩⟩
     refine W_does hp rfl rfl rfl Tryz.func133 rfl (by simp [Tryz.f133]) ?_
     simp only [Tryz.f133]
     refine hide ?_;intro Q5 hQ5
     repeat' (first
      | (replace hQ5:=hQ5;simp [bin,binI,ford,equalA,strOp,w2,v2,v21,hsub,ha1,hb1,x1,x2,m1,m2,m3,m4,m5,m6,hlt2,hsum,g1,c1,c2,e3])
      | refine hQ5 _ _ _ ?_
      | (first | refine dF (id:=4) [0,1,2,3,4,5,6,7,8,9,10,11,12,13,14,15,16,17,18,19,20,21,22,23,24,25,26,27,28] [] ?_ | refine dF (id:=8) [0,1,2,3,4,5,6,7,8,9,10,11,12,13,14] [(4,8)] ?_))
theorem cnew_c (h:H):W K 30 [] h = some (.ret (.one (.ptr h.next 0 0)) (h.new ⟨0,[1],true,[.nilslc]⟩)):=by
 refine W_does hp rfl rfl rfl Tryz.func30 rfl (by simp [Tryz.f30]) ?_
 simp only [Tryz.f30]
 refine hide ?_;intro Q1 hQ1
 repeat' (first
  | (replace hQ1:=hQ1;simp)
  | refine hQ1 _ _ _ ?_)
theorem cfind1_c (x:Tld) (n:Int) (h:H):W K 162 [.agg (encTld x),.one (ii n)] h = some (.ret (.one (ii (cmpI x.client n))) h):=by
 obtain ⟨c,s,b⟩:=x
 have hc:=cmpI_c c n
 simp only [encTld]
 have hown:memL S.own 162 = false:=by kernel_rfl
 refine W_pure hp (by simp [pureV,pureS,pureL]) (apart_does rfl rfl (by kernel_rfl) Tryz.func162 rfl (by simp [Tryz.f162]) ?_)
 simp only [Tryz.f162]
 refine hide ?_;intro Q2 hQ2
 repeat' (first
  | (replace hQ2:=hQ2;simp [hc,outV,frzV,frzS,pureS,K_own,hown])
  | refine hQ2 _ _ _ ?_)
theorem bsTold_c {h:H} {s:AS} {l:List Tld} (hs:Sees h 3 s (cat encTld l)) (g:Nat) (tgt:AV) (c:Tld→Int) (hg:∀ x h,W K g [.agg (encTld x),tgt] h = some (.ret (.one (ii (c x))) h)) (k:Nat) (hk:k ≤ l.length) (h1:∀ i (hi:i < l.length),i < k ↔ c l[i] < 0) (hl:l.length < 1000000) :
  W K 161 [.one s,tgt,.one (.fn g [] [])] h = some (.ret (.tup [(false,[ii k]),(false,[.bool (match l[k]? with | some x=>c x == 0 | none=>false)])]) h):=by
 have hcl:=flat_length len_tld l
 have hla:∀ (u:TypeId) (h':H),lenA s (some (.slice u)) h' = some (one (ii l.length) h'):=fun u h'=>lenA_sees h' u hs (by omega) hcl
 have hix:∀ i,i < l.length→indexA Tryz.prog 143 s i = some (atS 3 s i):=fun i hi=>sees_index Tryz.underlying143 (by simp) hs (by omega) hcl hi
 have hrd:∀ i (hi:i < l.length),readC h (atS 3 s i) 3 = some (encTld l[i]):=fun i hi=>by rw [sees_read hs (by omega) hcl hi,cat_at len_tld l hi]
 refine W_does hp rfl rfl rfl Tryz.func161 rfl (by simp [Tryz.f161]) ?_
 simp only [Tryz.f161]
 refine hide ?_;intro Q3 hQ3
 repeat' (first
  | (replace hQ3:=hQ3;simp [hla])
  | refine hQ3 _ _ _ ?_)
 refine does_loop hp (fun m fr hh=>hh = h∧∃ (i u:Nat),i ≤ k∧k ≤ u∧u ≤ l.length∧m = u - i∧∃ j:Nat→AV,fr = ((.one s)::(tgt)::(.one (.fn g [] []))::j 3::j 4::j 5::j 6::j 7::(.one (ii l.length))::(.one (ii i))::(.one (ii u))::j 11::j 12::j 13::j 14::j 15::j 16::j 17::j 18::j 19::j 20::j 21::j 22::j 23::j 24::j 25::j 26::j 27::j 28::j 29::j 30::j 31::j 32::j 33::j 34::j 35::j 36::j 37::j 38::j 39::j 40::j 41::j 42::j 43::j 44::j 45::j 46::j 47::j 48::[])) ?_ l.length _ _ ⟨rfl,0,l.length,by omega,hk,by omega,by omega,ex_get' rfl⟩
 rintro m fr hh ⟨rfl,i,u,q1,q2,q3,rfl,j,rfl⟩
 by_cases hij:i < u
 ·have d1:decide ((i:Int) < u) = true:=by simp;omega
  have hm:(i + u) / 2 < l.length:=by omega
  have w1:IntKind.i64.wrap ((i:Int) + u) = (i:Int) + u:=wrap_i64 (by omega) (by omega)
  have w2:IntKind.u64.wrap ((i:Int) + u) = (i:Int) + u:=wrap_u64 (by omega) (by omega)
  have w3:shiftI .shr .u64 ((i:Int) + u) 1 = some (.int .u64 (((i + u) / 2:Nat):Int)):=by
   simp only [shiftI]
   rw [if_neg (by omega)]
   have e:(2:Int) ^ min (1:Int).toNat IntKind.u64.bits = 2:=rfl
   rw [e,Int.fdiv_eq_ediv_of_nonneg _ (by omega)]
   simp
  have w4:IntKind.i64.wrap (((i + u) / 2:Nat):Int) = (((i + u) / 2:Nat):Int):=wrap_i64 (by omega) (by omega)
  have w5:IntKind.i64.wrap ((((i + u) / 2:Nat):Int) + 1) = (((i + u) / 2:Nat):Int) + 1:=wrap_i64 (by omega) (by omega)
  have x1:=hix _ hm
  have x2:=hrd _ hm
  have x3:=h1 _ hm
  generalize hM:(i + u) / 2 = M at *
  generalize hX:l[M] = X at *
  have x4:=hg X
  by_cases hc:c X < 0
  ·have d2:decide (c X < 0) = true:=by simp [hc]
   have hMk:=x3.2 hc
   first | (refine hide ?_;intro Q4 hQ4) | have hQ4:=True.intro
   repeat' (first
    | (replace hQ4:=hQ4;simp [hij,w1,w2,w3,w4,w5,x1,x2,x4,hc,convA])
    | (refine hQ4 _ _ _ ?_;clear hQ4 Q4;first | simp only [] | simp [d1,hij,w1,w2,w3,w4,w5,x1,x2,x4,d2,hc,convA] | skip)
    | (refine hadQ (by assumption) ?_;(try clear hQ4);first | simp only [] | simp [d1,hij,w1,w2,w3,w4,w5,x1,x2,x4,d2,hc,convA] | skip)
    | ((fail_if_success replace hQ4:=hQ4);(first | refine hide ?_ | refine hideS ?_ | refine hideB ?_);intro Q4 hQ4))
   all_goals exact ⟨u - (M + 1),by omega,trivial,M + 1,u,by omega,q2,q3,rfl,ex_get' (by simp)⟩
  ·have d2:decide (c X < 0) = false:=by simp [hc]
   have hMk:¬ M < k:=fun h=>hc (x3.1 h)
   first | (refine hide ?_;intro Q5 hQ5) | have hQ5:=True.intro
   repeat' (first
    | (replace hQ5:=hQ5;simp [hij,w1,w2,w3,w4,x1,x2,x4,hc,convA])
    | (refine hQ5 _ _ _ ?_;clear hQ5 Q5;first | simp only [] | simp [d1,hij,w1,w2,w3,w4,w5,x1,x2,x4,d2,hc,convA] | skip)
    | (refine hadQ (by assumption) ?_;(try clear hQ5);first | simp only [] | simp [d1,hij,w1,w2,w3,w4,w5,x1,x2,x4,d2,hc,convA] | skip)
    | ((fail_if_success replace hQ5:=hQ5);(first | refine hide ?_ | refine hideS ?_ | refine hideB ?_);intro Q5 hQ5))
   all_goals exact ⟨M - i,by omega,trivial,i,M,q1,by omega,by omega,rfl,ex_get' (by simp)⟩
 ·have d1:decide ((i:Int) < u) = false:=by simp;omega
  have hik:i = k:=by omega
  have hjk:u = k:=by omega
  subst hjk hik
  by_cases hkl:i < l.length
  ·have d2:decide ((i:Int) < l.length) = true:=by simp;omega
   have x1:=hix _ hkl
   have x2:=hrd _ hkl
   have x5:l[i]? = some l[i]:=List.getElem?_eq_getElem hkl
   generalize hX:l[i] = X at *
   have x4:=hg X
   first | (refine hide ?_;intro Q6 hQ6) | have hQ6:=True.intro
   repeat' (first
    | (replace hQ6:=hQ6;simp [hkl,x1,x2,x4])
    | (refine hQ6 _ _ _ ?_;clear hQ6 Q6;first | simp only [] | simp [d1,hij,d2,hkl,x1,x2,x4,x5] | skip)
    | (refine hadQ (by assumption) ?_;(try clear hQ6);first | simp only [] | simp [hkl] | skip)
    | ((fail_if_success replace hQ6:=hQ6);(first | refine hide ?_ | refine hideS ?_ | refine hideB ?_);intro Q6 hQ6))
   all_goals first | rfl | rw [hX]
  ·have d2:decide ((i:Int) < l.length) = false:=by simp;omega
   have x5:l[i]? = none:=List.getElem?_eq_none (by omega)
   first | (refine hide ?_;intro Q7 hQ7) | have hQ7:=True.intro
   repeat' (first
    | (replace hQ7:=hQ7;simp [hkl])
    | (refine hQ7 _ _ _ ?_;clear hQ7 Q7;first | simp only [] | simp [d1,hij,d2,hkl,x5] | skip)
    | (refine hadQ (by assumption) ?_;(try clear hQ7);first | simp only [] | simp [hkl] | skip)
    | ((fail_if_success replace hQ7:=hQ7);(first | refine hide ?_ | refine hideS ?_ | refine hideB ?_);intro Q7 hQ7))
theorem cfind_c {h:H} {p:Nat} {l:List Tld} {q:Option Nat} (w:Bx h p 3 encTld l q) (hs:chain clLt l = true) (hl:l.length < 1000000) (n:Int):W K 116 [.one (.ptr p 0 0),.one (ii n)] h = some (.ret (.tup [(false,[ii (cix l n)]),(false,[.bool (cat_ l n)])]) h):=by
 obtain ⟨w1,s,w2,w3,w4,w5⟩:=w
 have hb:=bsTold_c (h:=h) (s:=s) (l:=l) (w3.sees len_tld) 162 (.one (ii n)) (fun c=>cmpI c.client n) (fun x h=>cfind1_c x n h) (cix l n) (cix_le _ _) (fun i hi=>cix_lt hs n i hi) hl
 have he:(match l[cix l n]? with | some x=>cmpI x.client n == 0 | none=>false) = cat_ l n:=by
  unfold cat_;generalize l[cix l n]? = q;cases q <;> simp [cmpI_eq]
 rw [he] at hb
 generalize cat_ l n = T at *
 generalize cix l n = I at *
 refine W_does hp rfl rfl rfl Tryz.func116 rfl (by simp [Tryz.f116]) ?_
 simp only [Tryz.f116]
 refine hide ?_;intro Q8 hQ8
 repeat' (first
  | (replace hQ8:=hQ8;simp [w2,hb])
  | refine hQ8 _ _ _ ?_)
theorem rightT_c (c s:Int) (b:Option BL) (h:H):W K 125 [.one (ii c),.one (ii s),.one (bs b)] h = some (.ret (.one (.bool (rightT c s b))) h):=by
 have hown:memL S.own 125 = false:=by kernel_rfl
 refine W_pure hp (by simp [pureV,pureS]) (apart_does rfl rfl (by kernel_rfl) Tryz.func125 rfl (by simp [Tryz.f125]) ?_)
 simp only [Tryz.f125]
 refine hide ?_;intro Q9 hQ9
 repeat' (first
  | (replace hQ9:=hQ9;simp [rightT])
  | (refine hQ9 _ _ _ ?_;clear hQ9 Q9;first | simp only [] | simp [rightT,outV,frzV,frzS,pureS,K_own,hown])
  | (first | apply cF | apply wN | apply wS) <;> intro hcnd <;> (try simp only [hcnd]) <;> (try simp [-List.isEmpty_iff,-List.isEmpty_eq_false_iff] at hcnd))
 all_goals first | done | (simp_all [-List.isEmpty_iff,-List.isEmpty_eq_false_iff];done) | (simp_all;done) | (simp_all;omega) | (simp;omega) | (intros;omega) | (intros;simp only [decide_eq_true_eq] at *;omega) | (intros;simp at *;omega) | skip
theorem told_at {h:H} {b v:Nat} {l:List Tld} {z:List AS} (ar:Arr h encTld b v l z) {i:Nat} (hi:i < l.length):∃ fx ex M,h.f b = some ⟨v,M.length::ex,fx,M⟩∧i * 3 + 1 + 1 ≤ M.length∧i * 3 + 2 + 1 ≤ M.length∧sub M (i * 3 + 1) 1 = some [ii l[i].seq]∧sub M (i * 3 + 2) 1 = some [bs l[i].b]∧(∀ h' x,b < h'.next→h'.f b = some ⟨v,[M.length],fx,lay M (i * 3) (encTld x)⟩→Arr h' encTld b v (l.set i x) z)∧i * 3 + 3 ≤ M.length:=by
 obtain ⟨fx,ex,M,g4,_,_,g5,g6⟩:=ar.cells len_tld
 obtain ⟨q1,q2⟩:=g5 i hi
 refine ⟨fx,ex,M,g4,by omega,by omega, ?_, ?_,fun h' x hb hf=>g6 h' i x hi hb hf,q1⟩
 ·rw [sub_part q2 (o:=1) (n:=1) (by omega)];rfl
 ·rw [sub_part q2 (o:=2) (n:=1) (by omega)];rfl
theorem look_c {h:H} {p:Nat} {l:List Tld} {q:Option Nat} (w:Bx h p 3 encTld l q) (ok:CchOk l) (c s:Int):W K 73 [.one (.ptr p 0 0),.one (ii c),.one (ii s)] h = some (.ret (.tup [(false,[bs (lookT l c s).1]),(false,[ii (lookT l c s).2])]) h):=by
 have hlen:=ok.len
 have hf:=cfind_c w ok.srt (by omega) c
 have key:∃ r,W K 73 [.one (.ptr p 0 0),.one (ii c),.one (ii s)] h = some r∧r = .ret (.tup [(false,[bs (lookT l c s).1]),(false,[ii (lookT l c s).2])]) h:=by
  obtain ⟨res,hres⟩:∃ res,lookT l c s = res:=⟨_,rfl⟩
  rw [hres]
  unfold lookT at hres
  dsimp only at hres
  obtain ⟨w1,sl0,w2,w3,w4,w5⟩:=w
  have fin:∀ (o:Option BL) (n:Int),IceTo true h (fun r=>r = .ret (.tup [(false,[bs o]),(false,[ii n])]) h) (.ret (.tup [(false,[bs o]),(false,[ii n])]) h):=fun o n=>⟨_,iceR_same (kept_refl h) (by simp [pureW,pureL,pureS]),rfl⟩
  by_cases h1:s < 1
  ·rw [if_pos (.inl h1)] at hres
   subst hres
   have d1:decide (s < 1) = true:=by simp [h1]
   have f3:=fin none 3
   rw [bs_none] at f3
   refine W_iceQ hp rfl rfl rfl rfl Tryz.func73 rfl (by simp [Tryz.f73]) ?_
   simp only [Tryz.f73]
   refine hide ?_;intro Q10 hQ10
   repeat' (first
    | (replace hQ10:=hQ10;simp [hf,h1,bs_none])
    | refine hQ10 _ _ _ ?_)
   exact f3
  ·have d1:decide (s < 1) = false:=by simp [h1]
   cases hT:cat_ l c with
   | false =>
    rw [hT] at hf hres
    rw [if_neg (by simp [h1]),if_neg (by simp)] at hres
    subst hres
    have f1:=fin none 1
    rw [bs_none] at f1
    refine W_iceQ hp rfl rfl rfl rfl Tryz.func73 rfl (by simp [Tryz.f73]) ?_
    simp only [Tryz.f73]
    refine hide ?_;intro Q11 hQ11
    repeat' (first
     | (replace hQ11:=hQ11;simp [hf,h1,bs_none])
     | refine hQ11 _ _ _ ?_)
    exact f1
   | true =>
    rw [hT] at hf hres
    obtain ⟨hi,_⟩:=cat_inv hT
    generalize cix l c = I at *
    rw [List.getElem?_eq_getElem hi] at hres
    simp only [Option.getD_some,true_and] at hres
    have hb:∃ b v z,sl0 = .slc b v 0 l.length 3 none∧Arr h encTld b v l z:=by
     rcases w3 with ⟨_,e⟩ | ⟨b,v,z,e,ar⟩
     ·rw [e] at hi;simp at hi
     ·exact ⟨b,v,z,e,ar⟩
    obtain ⟨b,v,z,rfl,ar⟩:=hb
    obtain ⟨fx,ex,M,g1,g2,g3,g4,g5,_,_⟩:=told_at ar hi
    have hx:=arr_index (P:=Tryz.prog) (size:=3) (b:=b) (v:=v) (n:=l.length) (i:=I) Tryz.underlying143 (by simp) (by omega) hi
    have hbl:(ls l[I].b).length ≤ 1048576:=by
     have:=ok.ok _ (List.getElem_mem hi)
     simp only [rightT,Bool.and_eq_true,decide_eq_true_eq] at this
     exact this.2.2.2.2
    have hcl:=cloneK_c l[I].b (by omega)
    generalize l[I].seq = S at *
    generalize l[I].b = B at *
    by_cases h2:s < S
    ·rw [if_pos (.inr h2)] at hres
     subst hres
     have d2:decide (s < S) = true:=by simp [h2]
     have f3:=fin none 3
     rw [bs_none] at f3
     refine W_iceQ hp rfl rfl rfl rfl Tryz.func73 rfl (by simp [Tryz.f73]) ?_
     simp only [Tryz.f73]
     refine hide ?_;intro Q12 hQ12
     repeat' (first
      | (replace hQ12:=hQ12;simp [hf,h1,w2,hx,g1,g2,g4,h2,bs_none])
      | refine hQ12 _ _ _ ?_)
     exact f3
    ·have d2:decide (s < S) = false:=by simp [h2]
     rw [if_neg (by rintro (h | h);exact h1 h;exact h2 h)] at hres
     by_cases h3:s = S
     ·rw [if_pos h3] at hres
      subst hres
      subst h3
      refine W_iceQ hp rfl rfl rfl rfl Tryz.func73 rfl (by simp [Tryz.f73]) ?_
      simp only [Tryz.f73]
      refine hide ?_;intro Q13 hQ13
      repeat' (first
       | (replace hQ13:=hQ13;simp [hf,h1,w2,hx,g1,g2,g3,g4,g5,h2,hcl])
       | refine hQ13 _ _ _ ?_)
      exact fin B 2
     ·rw [if_neg h3] at hres
      subst hres
      have d3:(s == S) = false:=by simp [h3]
      have f1:=fin none 1
      rw [bs_none] at f1
      refine W_iceQ hp rfl rfl rfl rfl Tryz.func73 rfl (by simp [Tryz.f73]) ?_
      simp only [Tryz.f73]
      refine hide ?_;intro Q14 hQ14
      repeat' (first
       | (replace hQ14:=hQ14;simp [hf,h1,w2,hx,g1,g2,g4,h2,d3,bs_none])
       | refine hQ14 _ _ _ ?_)
      exact f1
 obtain ⟨r,e,rfl⟩:=key
 exact e
theorem insTld_c {h:H} {s:AS} {l:List Tld} (w:Sl h 3 encTld s l) (i:Nat) (hi:i ≤ l.length) (x:Tld) {bv:Nat} (hv:h.f bv = some ⟨0,[3],true,encTld x⟩) (hne:ownB s ≠ some bv) (hl:l.length < 1000000) :
  ∃ s' h',W K 126 [.one s,.one (ii i),.one (.slc bv 0 0 1 3 none)] h = some (.ret (.one s') h')∧(∃ b v z,s' = .slc b v 0 (l.insertIdx i x).length 3 none∧Arr h' encTld b v (l.insertIdx i x) z)∧h.next ≤ h'.next∧(∀ b,b < h.next→ownB s ≠ some b→h'.f b = h.f b)∧(∀ b,ownB s' = some b→ownB s = some b ∨ h.next ≤ b):=by
 obtain ⟨s',h',e,q⟩:=ins_arr (P:=Tryz.prog) (t:=143) Tryz.underlying143 (by simp) (by simp) Tryz.bytes202 (by omega) len_tld w i hi x hv hne (by simp only [limit];omega) (by omega)
 exact ⟨s',h',by rw [W_prim hp (g:=insP ⟨3,40⟩) rfl];exact e,q⟩
theorem keep_c {h:H} {p:Nat} {l:List Tld} {q:Option Nat} (w:Bx h p 3 encTld l q) (ok:CchOk l) (c s:Int) (b:Option BL) (hbl:(ls b).length < 4294967296) :
  ∃ h' q',W K 77 [.one (.ptr p 0 0),.one (ii c),.one (ii s),.one (bs b)] h = some (.ret (.one (.bool (keepT l c s b).2)) h')∧Bx h' p 3 encTld (keepT l c s b).1 q'∧Only h h' p q q':=by
 have hlen:=ok.len
 have hlk:=look_c w ok c s
 obtain ⟨B,hB⟩:∃ B:Blk,B = ⟨0,[3],true,encTld ⟨c,s,b⟩⟩:=⟨_,rfl⟩
 have hf:=cfind_c (w.new B) ok.srt (by omega) c
 have hr:=rightT_c c s b h
 have only0:Only h h p q q:=⟨by simp,fun b hb _ _=>rfl,.inl rfl⟩
 obtain ⟨res,hres⟩:∃ res,keepT l c s b = res:=⟨_,rfl⟩
 rw [hres]
 unfold keepT at hres
 by_cases h1:(lookT l c s).2 = 1
 ·rw [h1] at hlk
  cases h2:rightT c s b with
  | false =>
   rw [if_pos (.inr h2)] at hres
   subst hres
   rw [h2] at hr
   refine ⟨h,q, ?_,w,only0⟩
   refine W_does hp rfl rfl rfl Tryz.func77 rfl (by simp [Tryz.f77]) ?_
   simp only [Tryz.f77]
   refine hide ?_;intro Q1 hQ1
   repeat' (first
    | (replace hQ1:=hQ1;simp [hlk,hr])
    | refine hQ1 _ _ _ ?_
    | (first | refine dF (id:=7) [0,1,2,3,4,5,6,7] [] ?_ | refine dF (id:=8) [0,1,2,3,4,5,6,7,8,9,10,11] [] ?_)
    | (first | apply cF | apply wN | apply wS) <;> intro hcnd <;> (try simp only [hcnd]) <;> (try simp [-List.isEmpty_iff,-List.isEmpty_eq_false_iff] at hcnd))
  | true =>
   rw [if_neg (by simp [h1,h2])] at hres
   rw [h2] at hr
   have hbl2:=(right_inv h2).2.2.2.2
   have hcl:=cloneK_c b (by omega)
   have hti:=cix_le l c
   obtain ⟨w1,sl0,w2,w3,w4,w5⟩:=w
   cases hT:cat_ l c with
   | true =>
    rw [hT] at hf hres
    simp only [if_true] at hres
    subst hres
    obtain ⟨hi,hin⟩:=cat_inv hT
    generalize cix l c = I at *
    have hb:∃ b v z,sl0 = .slc b v 0 l.length 3 none∧Arr h encTld b v l z:=by
     rcases w3 with ⟨_,e⟩ | ⟨b,v,z,e,ar⟩
     ·rw [e] at hi;simp at hi
     ·exact ⟨b,v,z,e,ar⟩
    obtain ⟨bb,v,z,rfl,ar⟩:=hb
    obtain ⟨fx,ex,M,g1,_,_,_,_,g6,g7⟩:=told_at ar hi
    have hx:=arr_index (P:=Tryz.prog) (size:=3) (b:=bb) (v:=v) (n:=l.length) (i:=I) Tryz.underlying143 (by simp) (by omega) hi
    have hbp:bb ≠ p:=fun e=>w5 (by rw [← w4,e];rfl)
    have hbn:¬ bb = h.next:=by have:=ar.1;omega
    have hpn:¬ p = h.next:=by omega
    refine ⟨(h.new B).set bb ⟨v,[M.length],fx,lay M (I * 3) (encTld ⟨c,s,b⟩)⟩,q, ?_,⟨by simp;omega,.slc bb v 0 l.length 3 none,by rw [set_at,if_neg (Ne.symm hbp),new_f hpn];exact w2,.inr ⟨bb,v,z,by simp, ?_⟩,w4,w5⟩,⟨by simp,fun x hx hxp hxq=>?_,.inl rfl⟩⟩
    ·rw [hB] at hf ⊢
     simp only [encTld] at hf ⊢
     refine W_does hp rfl rfl rfl Tryz.func77 rfl (by simp [Tryz.f77]) ?_
     simp only [Tryz.f77]
     refine hide ?_;intro Q2 hQ2
     repeat' (first
      | (replace hQ2:=hQ2;simp [hlk,hr,hcl,hf,w2,hx,g1,g7,hbn,hpn,-lay,lay_c0,lay_n0,lay_cs])
      | refine hQ2 _ _ _ ?_
      | (first | refine dF (id:=7) [0,1,2,3,4,5,6,7] [] ?_ | refine dF (id:=8) [0,1,2,3,4,5,6,7,8,9,10,11] [] ?_)
      | (first | apply cF | apply wN | apply wS) <;> intro hcnd <;> (try simp only [hcnd]) <;> (try simp [-List.isEmpty_iff,-List.isEmpty_eq_false_iff] at hcnd))
    ·exact g6 _ ⟨c,s,b⟩ (by have:=ar.1;simp;omega) (by simp)
    ·rw [set_at,if_neg (fun e=>hxq (by rw [← w4,e];rfl)),new_f (by omega)]
   | false =>
    rw [hT] at hf hres
    simp only [oqF,if_false] at hres
    subst hres
    generalize hI:cix l c = I at *
    have w3C:Sl ((h.new B).new ⟨0,[3],true,encTld ⟨c,s,b⟩⟩) 3 encTld sl0 l:=w3.keep (by simp;omega) fun b hb=>by rw [new_f (by have:=w3.lt hb;simp;omega),new_f (by have:=w3.lt hb;omega)]
    obtain ⟨s2,hD,e2,⟨b2,v2,z2,hs2,ar2⟩,nD,fD,oD⟩:=insTld_c w3C I hti ⟨c,s,b⟩ (bv:=h.next + 1) (by simp) (fun e=>by have:=w3.lt e;omega) (by omega)
    simp only [new_next] at nD fD oD
    have hDp:hD.f p = some ⟨0,[1],true,[sl0]⟩:=by rw [fD p (by omega) (by rw [w4];exact w5),new_f (by simp;omega),new_f (by omega)];exact w2
    have hpn:¬ p = h.next:=by omega
    have hs2p:ownB s2 ≠ some p:=fun e=>by
     rcases oD p e with e | e
     ·rw [w4] at e;exact w5 e
     ·omega
    refine ⟨hD.set p ⟨0,[1],true,[s2]⟩,ownB s2, ?_,⟨by simp;omega,s2,by simp,.inr ⟨b2,v2,z2,hs2,ar2.keep (by simp) (by rw [set_at,if_neg (fun e=>hs2p (by rw [hs2,← e];rfl))])⟩,rfl,hs2p⟩,⟨by simp;omega,fun x hx hxp hxq=>?_, ?_⟩⟩
    ·rw [hB] at hf e2
     simp only [encTld] at hf e2
     refine W_does hp rfl rfl rfl Tryz.func77 rfl (by simp [Tryz.f77]) ?_
     simp only [Tryz.f77]
     refine hide ?_;intro Q3 hQ3
     repeat' (first
      | (replace hQ3:=hQ3;simp [hlk,hr,hcl,hf,w2,e2,hDp,hpn])
      | refine hQ3 _ _ _ ?_
      | (first | refine dF (id:=7) [0,1,2,3,4,5,6,7] [] ?_ | refine dF (id:=8) [0,1,2,3,4,5,6,7,8,9,10,11] [] ?_)
      | (first | apply cF | apply wN | apply wS) <;> intro hcnd <;> (try simp only [hcnd]) <;> (try simp [-List.isEmpty_iff,-List.isEmpty_eq_false_iff] at hcnd))
    ·rw [set_at,if_neg hxp,fD x (by omega) (by rw [w4];exact hxq),new_f (by simp;omega),new_f (by omega)]
    ·cases ho:ownB s2 with
     | none=>rw [hs2] at ho;cases ho
     | some x =>
      rcases oD x ho with e | e
      ·left;rw [← w4];exact e.symm
      ·exact .inr ⟨x,rfl,by omega⟩
 ·rw [if_pos (.inl h1)] at hres
  subst hres
  have h1b:((lookT l c s).2 == 1) = false:=by simp [h1]
  refine ⟨h,q, ?_,w,only0⟩
  refine W_does hp rfl rfl rfl Tryz.func77 rfl (by simp [Tryz.f77]) ?_
  simp only [Tryz.f77]
  refine hide ?_;intro Q4 hQ4
  repeat' (first
   | (replace hQ4:=hQ4;simp [hlk,hr])
   | refine hQ4 _ _ _ ?_
   | (first | refine dF (id:=7) [0,1,2,3,4,5,6,7] [] ?_ | refine dF (id:=8) [0,1,2,3,4,5,6,7,8,9,10,11] [] ?_)
   | (first | apply cF | apply wN | apply wS) <;> intro hcnd <;> (try simp only [hcnd]) <;> (try simp [-List.isEmpty_iff,-List.isEmpty_eq_false_iff] at hcnd))
  exact absurd ‹(lookT l c s).2 = 1› h1
theorem addT_snoc (l a:List Tld) (x:Tld):addT l (a++[x]) = (keepT (addT l a) x.client x.seq x.b).1:=by simp [addT]
theorem ccopy_c {h:H} {p:Nat} {l:List Tld} {q:Option Nat} (w:Bx h p 3 encTld l q) (ok:CchOk l):∃ h' q',W K 132 [.one (.ptr p 0 0)] h = some (.ret (.one (.ptr h.next 0 0)) h')∧Kept h h'∧Bx h' h.next 3 encTld l q'∧News h h' (h.next::q'.toList):=by
 have hlen:=ok.len
 have hcl:=flat_length len_tld l
 obtain ⟨w1,s,w2,w3,w4,w5⟩:=w
 have hs:=w3.sees len_tld
 have hsl:∀ b,ownB s = some b→b < h.next:=fun b hb=>w3.lt hb
 have hla:∀ (u:TypeId) (h':H),lenA s (some (.slice u)) h' = some (one (ii l.length) h'):=fun u h'=>lenA_sees h' u hs (by omega) hcl
 have hnew:=cnew_c h
 have hpn:¬ p = h.next:=by omega
 have key:∃ r,W K 132 [.one (.ptr p 0 0)] h = some r∧∃ h' q',r = .ret (.one (.ptr h.next 0 0)) h'∧Kept h h'∧Bx h' h.next 3 encTld l q'∧News h h' (h.next::q'.toList):=by
  obtain ⟨P,hP⟩:∃ P:CR→Prop,P = fun r=>∃ h' q',r = .ret (.one (.ptr h.next 0 0)) h'∧Kept h h'∧Bx h' h.next 3 encTld l q'∧News h h' (h.next::q'.toList):=⟨_,rfl⟩
  suffices hh:∃ r,W K 132 [.one (.ptr p 0 0)] h = some r∧P r by rw [hP] at hh;exact hh
  refine W_doesQ hp rfl rfl rfl Tryz.func132 rfl (by simp [Tryz.f132]) ?_
  simp only [Tryz.f132]
  refine hide ?_;intro Q1 hQ1
  repeat' (first
   | (replace hQ1:=hQ1;simp [hla,hnew,w2,hpn])
   | refine hQ1 _ _ _ ?_)
  refine does_each hp l (fun a r fr hh=>(h.next < hh.next∧(∀ b,b < h.next→hh.f b = h.f b)∧∃ q1,Bx hh h.next 3 encTld (addT [] a) q1∧(∀ b,q1 = some b→h.next < b)∧∃ j:Nat→AV,fr = (j 0::j 1::j 2::(.one (.ptr h.next 0 0))::j 4::j 5::j 6::j 7::j 8::j 9::(.one s)::(.one (ii l.length))::(.one (ii a.length))::j 13::j 14::j 15::j 16::j 17::j 18::j 19::j 20::j 21::j 22::j 23::j 24::j 25::[]))) ?_ ?_ _ _ ?_
  rotate_left 2
  ·exact ⟨by simp,fun b hb=>new_f (by omega),none,⟨by simp,.nilslc,by simp,.inl ⟨rfl,rfl⟩,rfl,by simp⟩,by simp,ex_get' (by simp)⟩
  ·rintro a x r fr hh hle ⟨i1,i2,q1,i3,i4,j,rfl⟩
   have hil:a.length < l.length:=by rw [hle];simp
   have hxe:l[a.length] = x:=by simp only [hle];simp
   have hsee:Sees hh 3 s (cat encTld l):=Rw.sees_keep hs fun b hb=>i2 b (hsl b hb)
   have hix:indexA Tryz.prog 143 s a.length = some (atS 3 s a.length):=sees_index Tryz.underlying143 (by simp) hsee (by omega) hcl hil
   have hrd:readC hh (atS 3 s a.length) 3 = some (encTld x):=by rw [sees_read hsee (by omega) hcl hil,cat_at len_tld _ hil,hxe]
   have hw:IntKind.i64.wrap ((a.length:Int) + 1) = ((a++[x]).length:Int):=by rw [step_len];exact step_wrap (by omega)
   have hxr:=ok.ok x (by rw [hle];simp)
   have hok:CchOk (addT [] a):=addT_ok ⟨rfl,by simp,by simp⟩
   obtain ⟨h2,q2,e2,b2,o2⟩:=keep_c (i3.new ⟨0,[3],true,encTld x⟩) hok x.client x.seq x.b (by have:=(right_inv hxr).2.2.2.2;omega)
   rw [← addT_snoc] at b2
   have o1:=o2.next
   simp only [new_next] at o1
   simp only [encTld] at hrd e2
   generalize hA2:a++[x] = A2 at *
   generalize (keepT (addT [] a) x.client x.seq x.b).2 = T at *
   first | (refine hide ?_;intro Q2 hQ2) | have hQ2:=True.intro
   repeat' (first
    | (replace hQ2:=hQ2;simp [hix,hrd,hil,e2,hw])
    | (refine hQ2 _ _ _ ?_;clear hQ2 Q2;first | simp only [] | skip)
    | (refine hadQ (by assumption) ?_;(try clear hQ2);first | simp only [] | skip)
    | ((fail_if_success replace hQ2:=hQ2);(first | refine hide ?_ | refine hideS ?_ | refine hideB ?_);intro Q2 hQ2))
   refine ⟨by omega,fun b hb=>?_,q2,b2,fun b hb=>?_,ex_get' (by simp)⟩
   ·rw [o2.keep b (by simp;omega) (by omega) (fun e=>by have:=i4 b e;omega),new_f (by omega)];exact i2 b hb
   ·rcases o2.own with e | ⟨y,e,hy⟩
    ·rw [e] at hb;exact i4 b hb
    ·rw [e] at hb;cases hb;simp at hy;omega
  ·rintro fr hh ⟨i1,i2,q1,i3,i4,j,rfl⟩
   first | (refine hide ?_;intro Q3 hQ3) | have hQ3:=True.intro
   repeat' (first
    | (replace hQ3:=hQ3;simp)
    | (refine hQ3 _ _ _ ?_;clear hQ3 Q3;first | simp only [] | simp | skip)
    | (refine hadQ (by assumption) ?_;(try clear hQ3);first | simp only [] | simp | skip)
    | ((fail_if_success replace hQ3:=hQ3);(first | refine hide ?_ | refine hideS ?_ | refine hideB ?_);intro Q3 hQ3))
   rw [hP]
   rw [addT_self ok] at i3
   refine ⟨hh,q1,rfl,⟨by omega,i2⟩,i3, ?_⟩
   cases q1 with
   | none=>exact ⟨by simp,fun x hx=>by simp at hx;omega⟩
   | some y =>
    have:=i4 y rfl
    have h3:y < hh.next:=by obtain ⟨_,s',_,k3,k4,_⟩:=i3;exact k3.lt k4
    exact ⟨by simp;omega,fun x hx=>by simp at hx;omega⟩
 obtain ⟨r,e,h',q',rfl,k⟩:=key
 exact ⟨h',q',e,k⟩
theorem cjoin_c {h:H} {p1 p:Nat} {m l:List Tld} {q0 q:Option Nat} (v:Bx h p1 3 encTld m q0) (okm:CchOk m) (w:Bx h p 3 encTld l q) (ok:CchOk l):∃ h' q',W K 134 [.one (.ptr p1 0 0),.one (.ptr p 0 0)] h = some (.ret (.one (.ptr (h.next + 1) 0 0)) h')∧Kept h h'∧Bx h' (h.next + 1) 3 encTld (addT m l) q'∧News h h' ((h.next + 1)::q'.toList):=by
 have hlen:=ok.len
 have hcl:=flat_length len_tld l
 obtain ⟨hC,qC,eC,kC,bC,nC⟩:=ccopy_c (v.new ⟨0,[1],true,[.nilslc]⟩) okm
 simp only [new_next] at eC bC nC
 have kC1:=kC.1
 have kC2:=kC.2
 simp only [new_next] at kC1 kC2
 have bC1:=bC.1
 obtain ⟨w1,s,w2,w3,w4,w5⟩:=w
 have hs:=w3.sees len_tld
 have hsl:∀ b,ownB s = some b→b < h.next:=fun b hb=>w3.lt hb
 have hla:∀ (u:TypeId) (h':H),lenA s (some (.slice u)) h' = some (one (ii l.length) h'):=fun u h'=>lenA_sees h' u hs (by omega) hcl
 have hnew:=cnew_c h
 have hpn:¬ p = h.next:=by omega
 have w2C:hC.f p = some ⟨0,[1],true,[s]⟩:=by rw [kC2 p (by omega),new_f hpn];exact w2
 have key:∃ r,W K 134 [.one (.ptr p1 0 0),.one (.ptr p 0 0)] h = some r∧∃ h' q',r = .ret (.one (.ptr (h.next + 1) 0 0)) h'∧Kept h h'∧Bx h' (h.next + 1) 3 encTld (addT m l) q'∧News h h' ((h.next + 1)::q'.toList):=by
  obtain ⟨P,hP⟩:∃ P:CR→Prop,P = fun r=>∃ h' q',r = .ret (.one (.ptr (h.next + 1) 0 0)) h'∧Kept h h'∧Bx h' (h.next + 1) 3 encTld (addT m l) q'∧News h h' ((h.next + 1)::q'.toList):=⟨_,rfl⟩
  suffices hh:∃ r,W K 134 [.one (.ptr p1 0 0),.one (.ptr p 0 0)] h = some r∧P r by rw [hP] at hh;exact hh
  refine W_doesQ hp rfl rfl rfl Tryz.func134 rfl (by simp [Tryz.f134]) ?_
  simp only [Tryz.f134]
  refine hide ?_;intro Q1 hQ1
  repeat' (first
   | (replace hQ1:=hQ1;simp [bin,binI,ford,equalA,hla,hnew,eC,w2C])
   | refine hQ1 _ _ _ ?_)
  refine does_each hp l (fun a r fr hh=>(h.next + 1 < hh.next∧(∀ b,b < h.next→hh.f b = h.f b)∧∃ q1,Bx hh (h.next + 1) 3 encTld (addT m a) q1∧(∀ b,q1 = some b→h.next ≤ b∧b ≠ h.next + 1)∧∃ j:Nat→AV,fr = (j 0::j 1::j 2::j 3::j 4::(.one (.ptr (h.next + 1) 0 0))::j 6::j 7::j 8::j 9::j 10::j 11::j 12::j 13::j 14::j 15::j 16::j 17::(.one s)::(.one (ii l.length))::(.one (ii a.length))::j 21::j 22::j 23::j 24::j 25::j 26::j 27::j 28::j 29::j 30::j 31::j 32::j 33::[]))) ?_ ?_ _ _ ?_
  rotate_left 2
  ·refine ⟨by omega,fun b hb=>by rw [kC2 b (by omega),new_f (by omega)],qC,bC,fun b hb=>?_,ex_get' (by simp)⟩
   subst hb
   have h1:=nC.1
   have h2:=nC.2 b (by simp)
   simp only [new_next] at h2
   exact ⟨by omega,fun e=>by simp [e] at h1⟩
  ·rintro a x r fr hh hle ⟨i1,i2,q1,i3,i4,j,rfl⟩
   have hil:a.length < l.length:=by rw [hle];simp
   have hxe:l[a.length] = x:=by simp only [hle];simp
   have hsee:Sees hh 3 s (cat encTld l):=Rw.sees_keep hs fun b hb=>i2 b (hsl b hb)
   have hix:indexA Tryz.prog 143 s a.length = some (atS 3 s a.length):=sees_index Tryz.underlying143 (by simp) hsee (by omega) hcl hil
   have hrd:readC hh (atS 3 s a.length) 3 = some (encTld x):=by rw [sees_read hsee (by omega) hcl hil,cat_at len_tld _ hil,hxe]
   have hw:IntKind.i64.wrap ((a.length:Int) + 1) = ((a++[x]).length:Int):=by rw [step_len];exact step_wrap (by omega)
   have hxr:=ok.ok x (by rw [hle];simp)
   have hok:CchOk (addT m a):=addT_ok okm
   obtain ⟨h2,q2,e2,b2,o2⟩:=keep_c (i3.new ⟨0,[3],true,encTld x⟩) hok x.client x.seq x.b (by have:=(right_inv hxr).2.2.2.2;omega)
   rw [← addT_snoc] at b2
   have o1:=o2.next
   simp only [new_next] at o1
   simp only [encTld] at hrd e2
   generalize hA2:a++[x] = A2 at *
   generalize (keepT (addT m a) x.client x.seq x.b).2 = T at *
   first | (refine hide ?_;intro Q2 hQ2) | have hQ2:=True.intro
   repeat' (first
    | (replace hQ2:=hQ2;simp [hix,hrd,hil,e2,hw])
    | (refine hQ2 _ _ _ ?_;clear hQ2 Q2;first | simp only [] | skip)
    | (refine hadQ (by assumption) ?_;(try clear hQ2);first | simp only [] | skip)
    | ((fail_if_success replace hQ2:=hQ2);(first | refine hide ?_ | refine hideS ?_ | refine hideB ?_);intro Q2 hQ2))
   refine ⟨by omega,fun b hb=>?_,q2,b2,fun b hb=>?_,ex_get' (by simp)⟩
   ·rw [o2.keep b (by simp;omega) (by omega) (fun e=>by have:=i4 b e;omega),new_f (by omega)];exact i2 b hb
   ·rcases o2.own with e | ⟨y,e,hy⟩
    ·rw [e] at hb;exact i4 b hb
    ·rw [e] at hb;cases hb;simp at hy;omega
  ·rintro fr hh ⟨i1,i2,q1,i3,i4,j,rfl⟩
   first | (refine hide ?_;intro Q3 hQ3) | have hQ3:=True.intro
   repeat' (first
    | (replace hQ3:=hQ3;simp)
    | (refine hQ3 _ _ _ ?_;clear hQ3 Q3;first | simp only [] | simp | skip)
    | (refine hadQ (by assumption) ?_;(try clear hQ3);first | simp only [] | simp | skip)
    | ((fail_if_success replace hQ3:=hQ3);(first | refine hide ?_ | refine hideS ?_ | refine hideB ?_);intro Q3 hQ3))
   rw [hP]
   refine ⟨hh,q1,rfl,⟨by omega,i2⟩,i3, ?_⟩
   cases q1 with
   | none=>exact ⟨by simp,fun x hx=>by simp at hx;omega⟩
   | some y =>
    have:=i4 y rfl
    have h3:y < hh.next:=by obtain ⟨_,s',_,k3,k4,_⟩:=i3;exact k3.lt k4
    exact ⟨by simp;omega,fun x hx=>by simp at hx;omega⟩
 obtain ⟨r,e,h',q',rfl,k⟩:=key
 exact ⟨h',q',e,k⟩
end Go.Proofs.YtiagcnfmgigllaaGreat
namespace Wm
open Go Go.Ab
def verBy (x:Version):BL:=num8 x.time++encVal x.v
def colBy (c:Column):BL:=textB c.name++(u8 (ls c.l).length::(ls c.l).flatMap verBy)
def colsBy (l:List Column):BL:=u8 l.length::l.flatMap colBy
def rowBy (o:Row):BL:=colsBy (ls (rowCopy o))
def namedBy (x:Named):BL:=textB x.name++rowBy x.r
theorem col_lims {o:Row} (h:rowB o = true):(ls o).length ≤ 4∧∀ c ∈ ls o,c.name.length ≤ 1048576∧(ls c.l).length ≤ 2∧∀ x ∈ ls c.l,x.v.kind = 1→(ls x.v.b).length ≤ 1048576:=by
 simp only [rowB,Bool.and_eq_true,List.all_eq_true,decide_eq_true_eq] at h
 refine ⟨h.2,fun c hc=>?_⟩
 have h1:=h.1.1 c hc
 simp only [colB,Bool.and_eq_true,List.all_eq_true,decide_eq_true_eq] at h1
 refine ⟨?_,h1.1.2.2,fun x hx hk=>?_⟩
 ·have:=h1.1.1
  simp only [nameOk,Bool.and_eq_true,decide_eq_true_eq] at this
  omega
 ·have:=h1.2.1 x hx
  simp only [verB,Bool.and_eq_true] at this
  have h2:=this.2.2
  unfold valOk at h2
  simp only [hk] at h2
  simp only [lenB] at h2
  simp at h2
  cases hb:x.v.b with
  | none=>simp
  | some l=>rw [hb] at h2;simp at h2 ⊢;omega
end Wm
