/- A part of a proof over the abstract machine. No conditions. -/
import Derived.Test.YtiagcnfmgigllaaGreatT33
set_option linter.all false
namespace Go.Proofs.YtiagcnfmgigllaaGreat
open Go Go.Ab Wm NumPlain Go.Proofs.Tryz
set_option maxRecDepth 10000
set_option maxHeartbeats 4000000
theorem q0Z {h:H} {sp:AS} {l1 l2:List Pt} {p:Pt} (w:Sl h 1 X2 sp (l1++p::l2)):∃ b v z fx ex M,sp = .slc b v 0 (l1++p::l2).length 1 none/\Arr h X2 b v (l1++p::l2) z/\h.f b = some ⟨v,M.length::ex,fx,M⟩/\b < h.next/\U7 prog 95 sp l1.length = some (.ptr b v l1.length)/\l1.length + 1 <= M.length/\sub M l1.length 1 = some [.ptr p.d 0 0] /\
  ∀ h' q,b < h'.next->h'.f b = some ⟨v,[M.length],fx,lay M l1.length [.ptr q.d 0 0]⟩->Sl h' 1 X2 sp (l1++q::l2):=by
 rcases w with ⟨_,e⟩ | ⟨b,v,z,rfl,ar⟩
 ·simp at e
 obtain ⟨fx,ex,M,hf,hM,_,hrd,hwr⟩:=ar.cells c0d
 have hil:l1.length < (l1++p::l2).length:=by simp
 obtain ⟨r1,r2⟩:=hrd l1.length hil
 have hg:(l1++p::l2)[l1.length]'hil = p:=by simp
 rw [hg] at r2
 have hx:=U5 (P:=prog) (size:=1) (b:=b) (v:=v) (n:=(l1++p::l2).length) (i:=l1.length) underlying95 (by simp) (by omega) hil
 simp only [Nat.mul_one,X2] at r1 r2 hx hwr
 refine ⟨b,v,z,fx,ex,M,rfl,ar,hf,ar.1,hx,r1,r2,fun h' q hb hf'=>.inr ⟨b,v,z,by simp, ?_⟩⟩
 have hs:=hwr h' l1.length q hil hb hf'
 rwa [show (l1++p::l2).set l1.length q = l1++q::l2 by simp] at hs
theorem p0B {h:H} {s:Nat} {sp:AS} {l1 l2:List Pt} {p:Pt} {last code:Int} (B7:Int) (B4:Int) (B8:BL) (D9:BL) (p5:Bool) (n9:Bool) (p7:BL) (j9:Int) (p6:Option BL) (p8:Nat) (I9:Option (List Change)) (A9:Int) (r8:BL) (u7:BL) (F5:Int) (M2:BL) (W0:Int) (V8:Int) (F8:Option BL) (w:StAt h s sp (l1++p::l2) last code) (hn:(l1++p::l2).length < 16) (ok:TblOk p.t.rows) (okc:CchOk p.t.cache)
  (hi:idx (fun q=>d0w ⟨r8,u7⟩ q.t) (l1++p::l2) = l1.length) (hsp:a0S ⟨r8,u7⟩ M2 = true) :
  ∃ h' sp' pa pb,W K 81 [.one (.ptr s 0 0),.agg [ii B7,ii B4,.str B8,.str D9,.bool p5,.bool n9,.str p7,ii j9,bs p6,.flt p8,sl 6 l8 I9,ii A9,.str r8,.str u7,ii F5,.str M2,ii W0,ii V8,bs F8]] h = some (.ret (.one (ii 0)) h')/\pa.t = ⟨⟨r8,M2⟩,F5,false,p.t.rows.take (tix p.t.rows M2),p.t.cache⟩/\pb.t = ⟨⟨M2,u7⟩,F5,false,p.t.rows.drop (tix p.t.rows M2),p.t.cache⟩ /\
   StAt h' s sp' (l1++pa::l2++[pb]) last code/\Fp h h' (fpS s sp (l1++p::l2)) (fpS s sp' (l1++pa::l2++[pb])):=by
 obtain ⟨a1,a2,a3⟩:=w.at
 obtain ⟨pr,pc,qr,qc,t1,t2,t3,t4,t5⟩:=a1
 obtain ⟨B0,hB0⟩:∃ B:Blk,B = ⟨0,[19],true,[ii B7,ii B4,.str B8,.str D9,.bool p5,.bool n9,.str p7,ii j9,bs p6,.flt p8,sl 6 l8 I9,ii A9,.str r8,.str u7,ii F5,.str M2,ii W0,ii V8,bs F8]⟩:=⟨_,rfl⟩
 obtain ⟨B1,hB1⟩:∃ B:Blk,B = ⟨0,[2],true,[.str r8,.str M2]⟩:=⟨_,rfl⟩
 obtain ⟨B2,hB2⟩:∃ B:Blk,B = ⟨0,[2],true,[.str M2,.str u7]⟩:=⟨_,rfl⟩
 have e1:=t0e (w.new B0) (by omega) ⟨r8,u7⟩
 rw [hi] at e1
 simp only at e1
 have e2:=j0j r8 u7 M2
 rw [hsp] at e2
 simp only [cond_true] at e2
 obtain ⟨h3,hh3⟩:∃ h3,((((h.new B0).new ⟨0,[2],true,[.str [],.str []]⟩).new ⟨0,[2],true,[.str [],.str []]⟩).set (h.next + 1) B1).set (h.next + 1 + 1) B2 = h3:=⟨_,rfl⟩
 have n3:h3.next = h.next + 1 + 1 + 1:=by rw [<- hh3];simp
 have k3:∀ b,b < h.next->h3.f b = h.f b:=fun b hb=>by rw [<- hh3,l0,if_neg (by omega),l0,if_neg (by omega),p0 (by simp;omega),p0 (by simp;omega),p0 (by omega)]
 have w3:=w.kept (h':=h3) ⟨by omega,k3⟩
 have t3':Bx h3 pr 2 g9 p.t.rows qr:=t3.keep (by omega) (k3 _ t3.1) fun b hb=>k3 b (t3.lt hb)
 have t4':Bx h3 pc 3 J7 p.t.cache qc:=t4.keep (by omega) (k3 _ t4.1) fun b hb=>k3 b (t4.lt hb)
 obtain ⟨h4,pA,pB,qA,qB,e4,k4,bA,bB,nw4⟩:=w0p t3' ok M2
 have n4:=k4.1
 have t4'':Bx h4 pc 3 J7 p.t.cache qc:=t4'.keep n4 (k4.2 _ t4'.1) fun b hb=>k4.2 b (t4'.lt hb)
 obtain ⟨h5,q5,e5,k5,b5,nw5⟩:=s0R t4'' okc
 have n5:=k5.1
 have w5:=(w3.kept k4).kept k5
 obtain ⟨b,v,z,fx,ex,M,hspe,ar,hMb,hbl,hix,hM1,hM2,hset⟩:=q0Z w5.spine
 have hbh:b < h.next:=w.spine.lt (b:=b) (by rw [hspe];rfl)
 have hbs:b ≠ s:=fun e=>by
  have:=w.nd
  rw [fpS,hspe] at this
  simp [z7,e] at this
 obtain ⟨TA,hTA⟩:∃ B:Blk,B = Y0 ⟨r8,M2⟩ F5 false (.ptr pA 0 0) (.ptr h4.next 0 0):=⟨_,rfl⟩
 obtain ⟨h6,hh6⟩:∃ h6,(h5.new TA).set b ⟨v,[M.length],fx,lay M l1.length [.ptr h5.next 0 0]⟩ = h6:=⟨_,rfl⟩
 have n6:h6.next = h5.next + 1:=by rw [<- hh6];simp
 have k6:∀ x,x < h5.next->x ≠ b->h6.f x = h5.f x:=fun x hx hxb=>by rw [<- hh6,l0,if_neg hxb,p0 (by omega)]
 obtain ⟨fpA,hfpA⟩:∃ l,l = h5.next::pA::h4.next::(qA.toList++q5.toList):=⟨_,rfl⟩
 have sp6:Sl h6 1 X2 sp (l1++⟨h5.next,⟨⟨r8,M2⟩,F5,false,p.t.rows.take (tix p.t.rows M2),p.t.cache⟩,fpA⟩::l2):=hset h6 ⟨h5.next,⟨⟨r8,M2⟩,F5,false,p.t.rows.take (tix p.t.rows M2),p.t.cache⟩,fpA⟩ (by omega) (by rw [<- hh6];simp)
 have kb:∀ x,x < h.next->x ≠ b->h6.f x = h.f x:=fun x hx hxb=>by rw [k6 x (by omega) hxb,k5.2 x (by omega),k4.2 x (by omega),k3 x hx]
 have hpcb:pc ≠ b:=fun e=>(a3 pc (by rw [t5];simp)).2.1 (by rw [hspe,e];rfl)
 have hdb:p.d ≠ b:=fun e=>(a3 p.d (by rw [t5];simp)).2.1 (by rw [hspe,e];rfl)
 have hqcb:qc ≠ some b:=fun e=>(a3 b (by rw [t5];simp [e])).2.1 (by rw [hspe];rfl)
 have t46:Bx h6 pc 3 J7 p.t.cache qc:=t4.keep (by omega) (kb _ t4.1 hpcb) fun x hx=>kb x (t4.lt hx) fun e=>hqcb (by rw [hx,e])
 obtain ⟨h7,q7,e7,k7,b7,nw7⟩:=s0R t46 okc
 have n7:=k7.1
 obtain ⟨TB,hTB⟩:∃ B:Blk,B = Y0 ⟨M2,u7⟩ F5 false (.ptr pB 0 0) (.ptr h6.next 0 0):=⟨_,rfl⟩
 obtain ⟨fpB,hfpB⟩:∃ l,l = h7.next::pB::h6.next::(qB.toList++q7.toList):=⟨_,rfl⟩
 obtain ⟨TS,hTS⟩:∃ B:Blk,B = ⟨0,[1],true,[.ptr h7.next 0 0]⟩:=⟨_,rfl⟩
 have sp7:Sl ((h7.new TB).new TS) 1 X2 sp (l1++⟨h5.next,⟨⟨r8,M2⟩,F5,false,p.t.rows.take (tix p.t.rows M2),p.t.cache⟩,fpA⟩::l2):=sp6.keep (by simp;omega) fun x hx=>by
  have:=sp6.lt hx
  rw [p0 (by simp;omega),p0 (by omega),k7.2 x this]
 obtain ⟨sp',h8,e8,⟨b8,v8,z8,hsp8,ar8⟩,g1,g2,g3⟩:=P7 (P:=prog) (t:=95) underlying95 (by simp) (by simp) Tryz.bytes98 (by omega) c0d (a:=.slc (h7.next + 1) 0 0 1 1 none) (m:=[⟨h7.next,⟨⟨M2,u7⟩,F5,false,p.t.rows.drop (tix p.t.rows M2),p.t.cache⟩,fpB⟩]) sp7 rfl (by simp [C6,cat,sub,X2,hTS]) (by simp) (by simp only [oqa,oqb,oqc,Nat.zero_add,N3] at hn |-;omega)
 simp only [A6] at g1 g2 g3
 have hown8:∀ x,z7 sp' = some x->x = b \/ h7.next + 1 + 1 <= x:=fun x hx=>by
  rcases g3 x hx with e | e
  ·left;rw [hspe] at e;cases e;rfl
  ·exact .inr e
 have hs8:z7 sp' ≠ some s:=fun e=>by
  rcases hown8 s e with e | e
  ·exact hbs e.symm
  ·have:=w.lt;omega
 have k8:∀ x,x < h7.next + 1 + 1->x ≠ b->h8.f x = ((h7.new TB).new TS).f x:=fun x hx hxb=>g2 x hx fun e=>hxb (by rw [hspe] at e;cases e;rfl)
 have k8':∀ x,x < h7.next->x ≠ b->x ≠ s->(h8.set s ⟨0,[3],true,[sp',ii last,ii code]⟩).f x = h7.f x:=fun x hx hxb hxs=>by rw [l0,if_neg hxs,k8 x (by omega) hxb,p0 (by simp;omega),p0 (by omega)]
 have kk:∀ x,x < h.next->x ≠ b->x ≠ s->(h8.set s ⟨0,[3],true,[sp',ii last,ii code]⟩).f x = h.f x:=fun x hx hxb hxs=>by rw [k8' x (by omega) hxb hxs,k7.2 x (by omega),kb x hx hxb]
 have hsn:=w.lt
 have ne:∀ x,h.next <= x->x ≠ b/\x ≠ s:=fun x hx=>by omega
 obtain ⟨nd4,lt4⟩:=nw4
 obtain ⟨nd5,lt5⟩:=nw5
 obtain ⟨nd7,lt7⟩:=nw7
 have lA:=lt4 pA (by simp)
 have lB:=lt4 pB (by simp)
 have lqA:∀ x,qA = some x->h3.next <= x/\x < h4.next:=fun x hx=>lt4 x (by simp [hx])
 have lqB:∀ x,qB = some x->h3.next <= x/\x < h4.next:=fun x hx=>lt4 x (by simp [hx])
 have lq5:∀ x,q5 = some x->h4.next <= x/\x < h5.next:=fun x hx=>lt5 x (by simp [hx])
 have lq7:∀ x,q7 = some x->h6.next <= x/\x < h7.next:=fun x hx=>lt7 x (by simp [hx])
 have l55:=(lt5 h4.next (by simp)).2
 have l77:=(lt7 h6.next (by simp)).2
 have tA:TabAt (h8.set s ⟨0,[3],true,[sp',ii last,ii code]⟩) h5.next ⟨⟨r8,M2⟩,F5,false,p.t.rows.take (tix p.t.rows M2),p.t.cache⟩ fpA:=by
  refine ⟨pA,h4.next,qA,q5,by simp;omega, ?_,bA.keep (by simp;omega) ?_ fun x hx=>?_,b5.keep (by simp;omega) ?_ fun x hx=>?_,hfpA⟩
  ·rw [k8' _ (by omega) (ne _ (by omega)).1 (ne _ (by omega)).2,k7.2 _ (by omega),<- hh6,l0,if_neg (ne _ (by omega)).1];simp [hTA]
  ·rw [k8' _ (by omega) (ne _ (by omega)).1 (ne _ (by omega)).2,k7.2 _ (by omega),k6 _ (by omega) (ne _ (by omega)).1,k5.2 _ (by omega)]
  ·have:=lqA x hx
   rw [k8' _ (by omega) (ne _ (by omega)).1 (ne _ (by omega)).2,k7.2 _ (by omega),k6 _ (by omega) (ne _ (by omega)).1,k5.2 _ (by omega)]
  ·rw [k8' _ (by omega) (ne _ (by omega)).1 (ne _ (by omega)).2,k7.2 _ (by omega),k6 _ (by omega) (ne _ (by omega)).1]
  ·have:=lq5 x hx
   rw [k8' _ (by omega) (ne _ (by omega)).1 (ne _ (by omega)).2,k7.2 _ (by omega),k6 _ (by omega) (ne _ (by omega)).1]
 have tB:TabAt (h8.set s ⟨0,[3],true,[sp',ii last,ii code]⟩) h7.next ⟨⟨M2,u7⟩,F5,false,p.t.rows.drop (tix p.t.rows M2),p.t.cache⟩ fpB:=by
  refine ⟨pB,h6.next,qB,q7,by simp;omega, ?_,bB.keep (by simp;omega) ?_ fun x hx=>?_,b7.keep (by simp;omega) ?_ fun x hx=>?_,hfpB⟩
  ·rw [l0,if_neg (ne _ (by omega)).2,k8 _ (by omega) (ne _ (by omega)).1,p0 (by simp)];simp [hTB]
  ·rw [k8' _ (by omega) (ne _ (by omega)).1 (ne _ (by omega)).2,k7.2 _ (by omega),k6 _ (by omega) (ne _ (by omega)).1,k5.2 _ (by omega)]
  ·have:=lqB x hx
   rw [k8' _ (by omega) (ne _ (by omega)).1 (ne _ (by omega)).2,k7.2 _ (by omega),k6 _ (by omega) (ne _ (by omega)).1,k5.2 _ (by omega)]
  ·rw [k8' _ (by omega) (ne _ (by omega)).1 (ne _ (by omega)).2]
  ·have:=lq7 x hx
   rw [k8' _ (by omega) (ne _ (by omega)).1 (ne _ (by omega)).2]
 have memA:∀ x ∈ fpA,x = h5.next \/ (x = pA \/ qA = some x) \/ (h4.next <= x/\x < h5.next):=fun x hx=>by
  rw [hfpA] at hx
  simp only [oqf,oqe,Option.mem_toList] at hx
  rcases hx with e | e | e | e | e
  ·exact .inl e
  ·exact .inr (.inl (.inl e))
  ·exact .inr (.inr (by omega))
  ·exact .inr (.inl (.inr e))
  ·exact .inr (.inr (lq5 x e))
 have memB:∀ x ∈ fpB,x = h7.next \/ (x = pB \/ qB = some x) \/ (h6.next <= x/\x < h7.next):=fun x hx=>by
  rw [hfpB] at hx
  simp only [oqf,oqe,Option.mem_toList] at hx
  rcases hx with e | e | e | e | e
  ·exact .inl e
  ·exact .inr (.inl (.inl e))
  ·exact .inr (.inr (by omega))
  ·exact .inr (.inl (.inr e))
  ·exact .inr (.inr (lq7 x e))
 have lowA:∀ x ∈ fpA,h.next <= x/\x < h6.next:=fun x hx=>by
  rcases memA x hx with e | (e | e) | e
  ·omega
  ·omega
  ·have:=lqA x e;omega
  ·omega
 have lowB:∀ x ∈ fpB,h.next <= x/\x < h7.next + 1:=fun x hx=>by
  rcases memB x hx with e | (e | e) | e
  ·omega
  ·omega
  ·have:=lqB x e;omega
  ·omega
 have ndA:fpA.Nodup:=by
  rw [hfpA]
  refine x0n ?_ nd5 ?_ ?_ ?_
  ·cases qA <;> cases qB <;> simp at nd4 |- <;> omega
  ·simp only [oqf,Option.mem_toList,not_or];exact ⟨by omega,fun e=>by have:=lqA _ e;omega⟩
  ·simp only [oqf,Option.mem_toList,not_or];exact ⟨by omega,fun e=>by have:=lq5 _ e;omega⟩
  ·intro x hx hx2
   have:=(lt5 x hx2).1
   simp only [oqf,Option.mem_toList] at hx
   rcases hx with e | e
   ·omega
   ·have:=lqA x e;omega
 have ndB:fpB.Nodup:=by
  rw [hfpB]
  refine x0n ?_ nd7 ?_ ?_ ?_
  ·cases qA <;> cases qB <;> simp at nd4 |- <;> omega
  ·simp only [oqf,Option.mem_toList,not_or];exact ⟨by omega,fun e=>by have:=lqB _ e;omega⟩
  ·simp only [oqf,Option.mem_toList,not_or];exact ⟨by omega,fun e=>by have:=lq7 _ e;omega⟩
  ·intro x hx hx2
   have:=(lt7 x hx2).1
   simp only [oqf,Option.mem_toList] at hx
   rcases hx with e | e
   ·omega
   ·have:=lqB x e;omega
 have disj:∀ x ∈ fpA,x ∉ fpB:=fun x hx hx2=>by
  rcases memA x hx with e | e | e
  ·rcases memB x hx2 with f | (f | f) | f
   ·omega
   ·omega
   ·have:=lqB x f;omega
   ·omega
  ·have hlx:h3.next <= x/\x < h4.next:=by
    rcases e with e | e
    ·omega
    ·exact lqA x e
   rcases memB x hx2 with f | f | f
   ·omega
   ·rcases e with e | e <;> rcases f with f | f
    ·subst e;subst f;simp at nd4
    ·subst e;rw [f] at nd4;simp at nd4
    ·subst f;rw [e] at nd4;simp at nd4
    ·rw [e,f] at nd4;simp at nd4
   ·omega
  ·rcases memB x hx2 with f | (f | f) | f
   ·omega
   ·omega
   ·have:=lqB x f;omega
   ·omega
 obtain ⟨ndf,ltf⟩:=w.flat
 have hnd:((l1++(⟨h5.next,⟨⟨r8,M2⟩,F5,false,p.t.rows.take (tix p.t.rows M2),p.t.cache⟩,fpA⟩:Pt)::l2++[(⟨h7.next,⟨⟨M2,u7⟩,F5,false,p.t.rows.drop (tix p.t.rows M2),p.t.cache⟩,fpB⟩:Pt)]).flatMap (·.fp)).Nodup:=by
  simp only [List.flatMap_append,List.flatMap_cons,List.flatMap_nil,List.append_nil] at ndf ltf |-
  rw [List.nodup_append]
  refine ⟨m0N ndf ndA fun x hx=>.inr ⟨fun hc=>?_,fun hc=>?_⟩,ndB,fun x hx y hy e=>?_⟩
  ·have:=ltf x (by simp only [oqe];exact .inl hc);have:=lowA x hx;omega
  ·have:=ltf x (by simp only [oqe];exact .inr (.inr hc));have:=lowA x hx;omega
  ·subst e
   simp only [oqe] at hx
   rcases hx with hc | hc | hc
   ·have:=ltf x (by simp only [oqe];exact .inl hc);have:=lowB x hy;omega
   ·exact disj x hc hy
   ·have:=ltf x (by simp only [oqe];exact .inr (.inr hc));have:=lowB x hy;omega
 have memF:∀ x ∈ (l1++(⟨h5.next,⟨⟨r8,M2⟩,F5,false,p.t.rows.take (tix p.t.rows M2),p.t.cache⟩,fpA⟩:Pt)::l2++[(⟨h7.next,⟨⟨M2,u7⟩,F5,false,p.t.rows.drop (tix p.t.rows M2),p.t.cache⟩,fpB⟩:Pt)]).flatMap (·.fp),x < h7.next + 1:=fun x hx=>by
  simp only [List.flatMap_append,List.flatMap_cons,List.flatMap_nil,List.append_nil,oqe] at hx ltf
  rcases hx with (hc | hc | hc) | hc
  ·have:=ltf x (.inl hc);omega
  ·have:=lowA x hc;omega
  ·have:=ltf x (.inr (.inr hc));omega
  ·exact (lowB x hc).2
 obtain ⟨st,fp⟩:=StAt.of (h':=h8.set s ⟨0,[3],true,[sp',ii last,ii code]⟩) (sp':=sp') (ps':=l1++(⟨h5.next,⟨⟨r8,M2⟩,F5,false,p.t.rows.take (tix p.t.rows M2),p.t.cache⟩,fpA⟩:Pt)::l2++[(⟨h7.next,⟨⟨M2,u7⟩,F5,false,p.t.rows.drop (tix p.t.rows M2),p.t.cache⟩,fpB⟩:Pt)]) (last':=last) (code':=code) w (by simp;omega) (by simp)
  (.inr ⟨b8,v8,z8,hsp8,ar8.keep (by simp) (by rw [l0,if_neg (fun e=>hs8 (by rw [hsp8,<- e];rfl))])⟩)
  (fun x hx=>by
   rcases hown8 x hx with e | e
   ·left;rw [hspe,e];rfl
   ·right;exact ⟨by omega,fun hc=>by have:=memF x hc;omega⟩)
  (fun q hq=>by
   simp only [oqe,oqf,List.not_mem_nil,or_false] at hq
   rcases hq with (hq | hq | hq) | hq
   ·left;simp [hq]
   ·right;subst hq;exact ⟨tA,fun x hx=>(lowA x hx).1⟩
   ·left;simp [hq]
   ·right;subst hq;exact ⟨tB,fun x hx=>(lowB x hx).1⟩)
  (fun x hx hxs hxb=>kk x hx (fun e=>hxb (by rw [hspe,e];rfl)) hxs) hnd
 refine ⟨_,sp',_,_, ?_,rfl,rfl,st,fp⟩
 have f0:h.f s = some ⟨0,[3],true,[sp,ii last,ii code]⟩:=w.blk
 have m0:¬ s = h.next:=by omega
 have m1:¬ s = h.next + 1:=by omega
 have m2:¬ s = h.next + 1 + 1:=by omega
 have m3:¬ p.d = h.next:=by omega
 have m4:¬ p.d = h.next + 1:=by omega
 have m5:¬ p.d = h.next + 1 + 1:=by omega
 have f3:h3.f s = some ⟨0,[3],true,[sp,ii last,ii code]⟩:=by rw [k3 s hsn];exact f0
 have d3x:h3.f p.d = some (Y0 p.t.span p.t.gen p.t.fr (.ptr pr 0 0) (.ptr pc 0 0)):=by rw [k3 _ t1];exact t2
 have f3b:h3.f h.next = some B0:=by rw [<- hh3];simp [L8,l0]
 have hMb3:K8 h3 (.ptr b v l1.length) 1 = some [.ptr p.d 0 0]:=by
  have hg:=(c0s w3.spine).2 l1.length (by simp)
  rw [hspe] at hg hix
  rw [hix] at hg
  simp only [oqI] at hg
  obtain ⟨e1,e2⟩:=hg
  rw [<- e1] at e2
  rw [e2];simp
 have f4:h4.f s = some ⟨0,[3],true,[sp,ii last,ii code]⟩:=by rw [k4.2 s (by omega),k3 s hsn];exact f0
 have d4:h4.f p.d = some (Y0 p.t.span p.t.gen p.t.fr (.ptr pr 0 0) (.ptr pc 0 0)):=by rw [k4.2 _ (by omega),k3 _ t1];exact t2
 have f4a:h4.f (h.next + 1) = some B1:=by rw [k4.2 _ (by omega),<- hh3];simp [l0]
 have f4b:h4.f h.next = some B0:=by rw [k4.2 _ (by omega),<- hh3];simp [L8,l0]
 have f4c:h4.f (h.next + 1 + 1) = some B2:=by rw [k4.2 _ (by omega),<- hh3];simp [l0]
 have f5:h5.f s = some ⟨0,[3],true,[sp,ii last,ii code]⟩:=by rw [k5.2 s (by omega)];exact f4
 have f6:h6.f s = some ⟨0,[3],true,[sp,ii last,ii code]⟩:=by rw [k6 s (by omega) (Ne.symm hbs)];exact f5
 have f6a:h6.f h.next = some B0:=by rw [k6 _ (by omega) (ne _ (by omega)).1,k5.2 _ (by omega)];exact f4b
 have f6b:h6.f (h.next + 1 + 1) = some B2:=by rw [k6 _ (by omega) (ne _ (by omega)).1,k5.2 _ (by omega)];exact f4c
 have d6:h6.f p.d = some (Y0 p.t.span p.t.gen p.t.fr (.ptr pr 0 0) (.ptr pc 0 0)):=by rw [k6 _ (by omega) hdb,k5.2 _ (by omega)];exact d4
 have f5a:h5.f (h.next + 1) = some B1:=by rw [k5.2 _ (by omega)];exact f4a
 have f5b:h5.f h.next = some B0:=by rw [k5.2 _ (by omega)];exact f4b
 have d5:h5.f p.d = some (Y0 p.t.span p.t.gen p.t.fr (.ptr pr 0 0) (.ptr pc 0 0)):=by rw [k5.2 _ (by omega)];exact d4
 have f7:h7.f s = some ⟨0,[3],true,[sp,ii last,ii code]⟩:=by rw [k7.2 s (by omega)];exact f6
 have f7a:h7.f h.next = some B0:=by rw [k7.2 _ (by omega)];exact f6a
 have f7b:h7.f (h.next + 1 + 1) = some B2:=by rw [k7.2 _ (by omega)];exact f6b
 have d7:h7.f p.d = some (Y0 p.t.span p.t.gen p.t.fr (.ptr pr 0 0) (.ptr pc 0 0)):=by rw [k7.2 _ (by omega)];exact d6
 have f8:h8.f s = some ⟨0,[3],true,[sp,ii last,ii code]⟩:=by rw [k8 s (by omega) (Ne.symm hbs),p0 (by simp;omega),p0 (by omega),k7.2 s (by omega)];exact f6
 have hL:(l1++p::l2).length < 16:=hn
 have hla:∀ (u:TypeId) (h':H),V9 sp (some (.slice u)) h' = some (one (ii (l1++p::l2).length) h'):=(c0s w.spine).1
 generalize hLL:(l1++p::l2).length = L at *
 have d1:decide ((16:Int) <= (L:Int)) = false:=by simp;omega
 have d2:¬ 16 <= L:=by omega
 have d2':¬ (16:Int) <= (L:Int):=by omega
 have d3:¬ (l1.length:Int) < 0:=by omega
 have d4':decide ((l1.length:Int) < 0) = false:=decide_eq_false d3
 have nb1:¬ b = h5.next:=by omega
 have nb2:¬ h5.next = b:=by omega
 generalize l1.length = N at *
 simp only [Y0] at d4 d6 t2 d3x d5 d7 hTA hTB
 rw [hB0] at e1 f4b f6a f3b f5b f7a
 rw [hB1] at f4a f5a
 rw [hB2] at f6b f4c f7b
 rw [hB0,hB1,hB2] at hh3
 rw [hTA] at hh6
 rw [hTB,hTS] at e8
 refine zzD func81 rfl ?_
 simp only [f81]
 intro Q1 Y1
 repeat' (first
  | (replace Y1:=Y1;simp [-lay,L5,L6,O6,e1,e2,f0,m0,hla,d2',d3,hix,hh3,f3,d3x,f3b,hMb3,e4,f4,d4,f4a,f4b,e5,f5,hMb,hM1,nb1,hh6,f6,f6a,f6b,d6,f5a,f5b,f7,f7a,f7b,e7,e8,f8])
  | refine Y1 _ _ _ ?_
  | (first | refine dF (id:=10) h0R [] ?_ | refine dF (id:=11) g0z [(3,13),(5,13),(7,13)] ?_ | refine dF (id:=12) F0K [(4,13),(5,13),(7,13)] ?_))
theorem StAt.num {h:H} {s:Nat} {sp:AS} {ps:List Pt} {last code:Int} (w:StAt h s sp ps last code) (last' code':Int):StAt (h.set s ⟨0,[3],true,[sp,ii last',ii code']⟩) s sp ps last' code'/\Fp h (h.set s ⟨0,[3],true,[sp,ii last',ii code']⟩) (fpS s sp ps) (fpS s sp ps):=by
 have hn:=w.nd
 simp only [fpS,List.nodup_cons,oqe,List.mem_flatMap,not_or,not_exists,not_and] at hn
 refine ⟨⟨by simpa using w.lt,by simp,w.spine.keep (by simp) fun b hb=>by rw [l0,if_neg (fun e=>hn.1.1 (by rw [<- e];simpa using hb))],fun p hp=>(w.tabs p hp).keep (by simp) fun b hb=>by rw [l0,if_neg (fun e=>hn.1.2 p hp (by rw [<- e];exact hb))],w.nd⟩,⟨by simp,fun b hb hbn=>by rw [l0,if_neg (fun e=>hbn (by rw [e];simp [fpS]))],fun b hb=>.inl hb⟩⟩
theorem StAt.out {h:H} {s:Nat} {sp:AS} {ps:List Pt} {last code:Int} (w:StAt h s sp ps last code) {b:Nat} (hb:b ∉ fpS s sp ps) (k:Blk):StAt (h.set b k) s sp ps last code:=w.keep (by simp) fun x hx=>by rw [l0,if_neg (fun e=>hb (by rw [<- e];exact hx))]
theorem Fp.new {h h':H} {F F':List Nat} {k:Blk} (g:Fp (h.new k) h' F F'):Fp h h' F F' where
 next:=by have:=g.next;simp at this;omega
 keep b hb hn:=by rw [g.keep b (by simp;omega) hn,p0 (by omega)]
 own b hb:=by
  rcases g.own b hb with e | e
  ·exact .inl e
  ·simp at e;right;omega
theorem Fp.seto {h h':H} {F F':List Nat} (g:Fp h h' F F') {b:Nat} (hb:h.next <= b) (k:Blk):Fp h (h'.set b k) F F' where
 next:=by simpa using g.next
 keep x hx hn:=by rw [l0,if_neg (by omega),g.keep x hx hn]
 own:=g.own
theorem l0H {h:H} {s:Nat} {sp:AS} {ps:List Pt} {last code:Int} (B7:Int) (B4:Int) (B8:BL) (D9:BL) (p5:Bool) (n9:Bool) (p7:BL) (j9:Int) (p6:Option BL) (p8:Nat) (I9:Option (List Change)) (A9:Int) (r8:BL) (u7:BL) (F5:Int) (M2:BL) (W0:Int) (V8:Int) (F8:Option BL) (w:StAt h s sp ps last code) (hg:last < F5) (f:Nat) (hk:(B7 = 3/\f = 80) \/ (B7 = 5/\f = 81) \/ (B7 = 6/\f = 82)) (R:List Pt->Int->Prop)
  (inner:∀ h2,StAt h2 s sp ps F5 code->Fp h h2 (fpS s sp ps) (fpS s sp ps)->∃ h3 sp' ps' r,W K f [.one (.ptr s 0 0),.agg [ii B7,ii B4,.str B8,.str D9,.bool p5,.bool n9,.str p7,ii j9,bs p6,.flt p8,sl 6 l8 I9,ii A9,.str r8,.str u7,ii F5,.str M2,ii W0,ii V8,bs F8]] h2 = some (.ret (.one (ii r)) h3)/\StAt h3 s sp' ps' F5 code/\Fp h2 h3 (fpS s sp ps) (fpS s sp' ps')/\ps'.length <= 16/\R ps' r) :
  ∃ h' sp' ps' r,W K 42 [.one (.ptr s 0 0),.agg [ii B7,ii B4,.str B8,.str D9,.bool p5,.bool n9,.str p7,ii j9,bs p6,.flt p8,sl 6 l8 I9,ii A9,.str r8,.str u7,ii F5,.str M2,ii W0,ii V8,bs F8]] h = some (.ret (.agg (c6 (noA r))) h')/\StAt h' s sp' (Z5 pLt ps') F5 r/\Fp h h' (fpS s sp ps) (fpS s sp' (Z5 pLt ps'))/\R ps' r:=by
 obtain ⟨B0,hB0⟩:∃ B:Blk,B = ⟨0,[19],true,[ii B7,ii B4,.str B8,.str D9,.bool p5,.bool n9,.str p7,ii j9,bs p6,.flt p8,sl 6 l8 I9,ii A9,.str r8,.str u7,ii F5,.str M2,ii W0,ii V8,bs F8]⟩:=⟨_,rfl⟩
 have hsn:=w.lt
 have wl:=w.fp_lt
 obtain ⟨w2,g2⟩:=((w.new B0).new R9).num F5 code
 obtain ⟨h2,hh2⟩:∃ h2,((h.new B0).new R9).set s ⟨0,[3],true,[sp,ii F5,ii code]⟩ = h2:=⟨_,rfl⟩
 rw [hh2] at w2 g2
 have n2:h2.next = h.next + 1 + 1:=by rw [<- hh2];simp
 have g2':=g2.new.new
 obtain ⟨h3,sp',ps',r,e3,w3,g3,l3,hR⟩:=inner h2 w2 g2'
 obtain ⟨w4,g4⟩:=w3.num F5 r
 obtain ⟨h4,hh4⟩:∃ h4,h3.set s ⟨0,[3],true,[sp',ii F5,ii r]⟩ = h4:=⟨_,rfl⟩
 rw [hh4] at w4 g4
 obtain ⟨h5,e5,w5,g5⟩:=r0k w4 l3
 have g25:=(g3.trans g4).trans g5
 have gF:=(g2'.trans g25)
 have o0:h.next ∉ fpS s sp ps:=fun e=>by have:=wl _ e;omega
 have o1:h.next + 1 ∉ fpS s sp ps:=fun e=>by have:=wl _ e;omega
 have o5:h.next + 1 ∉ fpS s sp' (Z5 pLt ps'):=fun e=>by
  rcases g25.own _ e with e | e
  ·exact o1 e
  ·omega
 have f2:h2.f s = some ⟨0,[3],true,[sp,ii F5,ii code]⟩:=w2.blk
 have f2a:h2.f h.next = some B0:=by rw [<- hh2,l0,if_neg (by omega),p0 (by simp)];simp
 have f2b:h2.f (h.next + 1) = some R9:=by rw [<- hh2,l0,if_neg (by omega)];simp
 have f3:h3.f s = some ⟨0,[3],true,[sp',ii F5,ii code]⟩:=w3.blk
 have f5:h5.f s = some ⟨0,[3],true,[sp',ii F5,ii r]⟩:=w5.blk
 have f5b:h5.f (h.next + 1) = some R9:=by rw [g25.keep _ (by omega) o1];exact f2b
 have f0:h.f s = some ⟨0,[3],true,[sp,ii last,ii code]⟩:=w.blk
 have hno:=q0D r
 obtain ⟨C,hC⟩:∃ C,c6 (noA r) = C:=⟨_,rfl⟩
 have hCl:C.length = 11:=by rw [<- hC];rfl
 have hCs:sub C 0 11 = some C:=L4 hCl
 rw [hC] at hno
 suffices key:W K 42 [.one (.ptr s 0 0),.agg [ii B7,ii B4,.str B8,.str D9,.bool p5,.bool n9,.str p7,ii j9,bs p6,.flt p8,sl 6 l8 I9,ii A9,.str r8,.str u7,ii F5,.str M2,ii W0,ii V8,bs F8]] h = some (.ret (.agg C) (h5.set (h.next + 1) ⟨0,[11],true,C⟩)) from ⟨h5.set (h.next + 1) ⟨0,[11],true,C⟩,sp',ps',r,by rw [hC];exact key,w5.out o5 _,gF.seto (by omega) _,hR⟩
 have m0:¬ s = h.next:=by omega
 have m1:¬ s = h.next + 1:=by omega
 have d1:decide (F5 < last) = false:=by simp;omega
 have d2:¬ F5 < last:=by omega
 have d3:(F5 == last) = false:=by simp;omega
 have d4:¬ F5 = last:=by omega
 rcases hk with ⟨rfl,rfl⟩ | ⟨rfl,rfl⟩ | ⟨rfl,rfl⟩
 ·rw [hB0] at f2a hh2
  refine zzD func42 rfl ?_
  simp only [f42]
  intro Q1 Y1
  repeat' (first
   | (replace Y1:=Y1;simp [-lay,L5,L6,O6,J2,hCl,hCs,f0,m0,m1,d2,d3,hh2,f2a,e3,f3,hh4,e5,f5,f5b,hno])
   | refine Y1 _ _ _ ?_
   | (first | refine dF (id:=1) zl8 [] ?_ | refine dF (id:=3) zl8 [] ?_))
 ·rw [hB0] at f2a hh2
  refine zzD func42 rfl ?_
  simp only [f42]
  intro Q2 Y2
  repeat' (first
   | (replace Y2:=Y2;simp [-lay,L5,L6,O6,J2,hCl,hCs,f0,m0,m1,d2,d3,hh2,f2a,e3,f3,hh4,e5,f5,f5b,hno])
   | refine Y2 _ _ _ ?_
   | (first | refine dF (id:=1) zl8 [] ?_ | refine dF (id:=3) zl8 [] ?_))
 ·rw [hB0] at f2a hh2
  refine zzD func42 rfl ?_
  simp only [f42]
  intro Q3 Y3
  repeat' (first
   | (replace Y3:=Y3;simp [-lay,L5,L6,O6,J2,hCl,hCs,f0,m0,m1,d2,d3,hh2,f2a,e3,f3,hh4,e5,f5,f5b,hno])
   | refine Y3 _ _ _ ?_
   | (first | refine dF (id:=1) zl8 [] ?_ | refine dF (id:=3) zl8 [] ?_))
theorem s0o {h h3:H} {s:Nat} {A:Answer} (client seq:Int) (B7:Int) (B4:Int) (B8:BL) (D9:BL) (p5:Bool) (n9:Bool) (p7:BL) (j9:Int) (p6:Option BL) (p8:Nat) (I9:Option (List Change)) (A9:Int) (r8:BL) (u7:BL) (F5:Int) (M2:BL) (W0:Int) (V8:Int) (F8:Option BL) (hk:B7 = 1) (hok:c0j ⟨B7,⟨B4,B8,D9,⟨p5,n9,p7,⟨j9,p6,p8⟩⟩,I9,A9⟩,⟨r8,u7⟩,F5,M2,W0,V8,F8⟩ = true) (hl:(ls I9).length < 9223372036854775807)
  (e:W K 39 [.one (.ptr s 0 0),.one (ii client),.one (ii seq),.agg [ii B4,.str B8,.str D9,.bool p5,.bool n9,.str p7,ii j9,bs p6,.flt p8,sl 6 l8 I9,ii A9]] ((h.new ⟨0,[19],true,[ii B7,ii B4,.str B8,.str D9,.bool p5,.bool n9,.str p7,ii j9,bs p6,.flt p8,sl 6 l8 I9,ii A9,.str r8,.str u7,ii F5,.str M2,ii W0,ii V8,bs F8]⟩).new R9) = some (.ret (.agg (c6 A)) h3)) (hf:h3.f (h.next + 1) = some R9) :
  W K 12 [.one (.ptr s 0 0),.one (ii client),.one (ii seq),.agg [ii B7,ii B4,.str B8,.str D9,.bool p5,.bool n9,.str p7,ii j9,bs p6,.flt p8,sl 6 l8 I9,ii A9,.str r8,.str u7,ii F5,.str M2,ii W0,ii V8,bs F8]] h = some (.ret (.agg (c6 A)) (h3.set (h.next + 1) ⟨0,[11],true,c6 A⟩)):=by
 have hr:=h0S B7 B4 B8 D9 p5 n9 p7 j9 p6 p8 I9 A9 r8 u7 F5 M2 W0 V8 F8 hl
 rw [hok] at hr
 have hCl:(c6 A).length = 11:=rfl
 have hCs:sub (c6 A) 0 11 = some (c6 A):=L4 hCl
 generalize c6 A = C at *
 subst hk
 refine zzD func12 rfl ?_
 simp only [f12]
 intro Q1 Y1
 repeat' (first
  | (replace Y1:=Y1;simp [-lay,J2,hCl,hCs,hr,e,hf])
  | refine Y1 _ _ _ ?_)
theorem C0F {h h3:H} {s:Nat} {A:Answer} (client seq:Int) (B7:Int) (B4:Int) (B8:BL) (D9:BL) (p5:Bool) (n9:Bool) (p7:BL) (j9:Int) (p6:Option BL) (p8:Nat) (I9:Option (List Change)) (A9:Int) (r8:BL) (u7:BL) (F5:Int) (M2:BL) (W0:Int) (V8:Int) (F8:Option BL) (hk:B7 = 2) (hok:c0j ⟨B7,⟨B4,B8,D9,⟨p5,n9,p7,⟨j9,p6,p8⟩⟩,I9,A9⟩,⟨r8,u7⟩,F5,M2,W0,V8,F8⟩ = true) (hl:(ls I9).length < 9223372036854775807)
  (e:W K 40 [.one (.ptr s 0 0),.agg [ii B7,ii B4,.str B8,.str D9,.bool p5,.bool n9,.str p7,ii j9,bs p6,.flt p8,sl 6 l8 I9,ii A9,.str r8,.str u7,ii F5,.str M2,ii W0,ii V8,bs F8]] ((h.new ⟨0,[19],true,[ii B7,ii B4,.str B8,.str D9,.bool p5,.bool n9,.str p7,ii j9,bs p6,.flt p8,sl 6 l8 I9,ii A9,.str r8,.str u7,ii F5,.str M2,ii W0,ii V8,bs F8]⟩).new R9) = some (.ret (.agg (c6 A)) h3)) (hf:h3.f (h.next + 1) = some R9) :
  W K 12 [.one (.ptr s 0 0),.one (ii client),.one (ii seq),.agg [ii B7,ii B4,.str B8,.str D9,.bool p5,.bool n9,.str p7,ii j9,bs p6,.flt p8,sl 6 l8 I9,ii A9,.str r8,.str u7,ii F5,.str M2,ii W0,ii V8,bs F8]] h = some (.ret (.agg (c6 A)) (h3.set (h.next + 1) ⟨0,[11],true,c6 A⟩)):=by
 have hr:=h0S B7 B4 B8 D9 p5 n9 p7 j9 p6 p8 I9 A9 r8 u7 F5 M2 W0 V8 F8 hl
 rw [hok] at hr
 have hCl:(c6 A).length = 11:=rfl
 have hCs:sub (c6 A) 0 11 = some (c6 A):=L4 hCl
 generalize c6 A = C at *
 subst hk
 refine zzD func12 rfl ?_
 simp only [f12]
 intro Q2 Y2
 repeat' (first
  | (replace Y2:=Y2;simp [-lay,J2,hCl,hCs,hr,e,hf])
  | refine Y2 _ _ _ ?_)
theorem C0w {h h3:H} {s:Nat} {A:Answer} (client seq:Int) (B7:Int) (B4:Int) (B8:BL) (D9:BL) (p5:Bool) (n9:Bool) (p7:BL) (j9:Int) (p6:Option BL) (p8:Nat) (I9:Option (List Change)) (A9:Int) (r8:BL) (u7:BL) (F5:Int) (M2:BL) (W0:Int) (V8:Int) (F8:Option BL) (hk:B7 = 4) (hok:c0j ⟨B7,⟨B4,B8,D9,⟨p5,n9,p7,⟨j9,p6,p8⟩⟩,I9,A9⟩,⟨r8,u7⟩,F5,M2,W0,V8,F8⟩ = true) (hl:(ls I9).length < 9223372036854775807)
  (e:W K 41 [.one (.ptr s 0 0),.agg [ii B7,ii B4,.str B8,.str D9,.bool p5,.bool n9,.str p7,ii j9,bs p6,.flt p8,sl 6 l8 I9,ii A9,.str r8,.str u7,ii F5,.str M2,ii W0,ii V8,bs F8]] ((h.new ⟨0,[19],true,[ii B7,ii B4,.str B8,.str D9,.bool p5,.bool n9,.str p7,ii j9,bs p6,.flt p8,sl 6 l8 I9,ii A9,.str r8,.str u7,ii F5,.str M2,ii W0,ii V8,bs F8]⟩).new R9) = some (.ret (.agg (c6 A)) h3)) (hf:h3.f (h.next + 1) = some R9) :
  W K 12 [.one (.ptr s 0 0),.one (ii client),.one (ii seq),.agg [ii B7,ii B4,.str B8,.str D9,.bool p5,.bool n9,.str p7,ii j9,bs p6,.flt p8,sl 6 l8 I9,ii A9,.str r8,.str u7,ii F5,.str M2,ii W0,ii V8,bs F8]] h = some (.ret (.agg (c6 A)) (h3.set (h.next + 1) ⟨0,[11],true,c6 A⟩)):=by
 have hr:=h0S B7 B4 B8 D9 p5 n9 p7 j9 p6 p8 I9 A9 r8 u7 F5 M2 W0 V8 F8 hl
 rw [hok] at hr
 have hCl:(c6 A).length = 11:=rfl
 have hCs:sub (c6 A) 0 11 = some (c6 A):=L4 hCl
 generalize c6 A = C at *
 subst hk
 refine zzD func12 rfl ?_
 simp only [f12]
 intro Q3 Y3
 repeat' (first
  | (replace Y3:=Y3;simp [-lay,J2,hCl,hCs,hr,e,hf])
  | refine Y3 _ _ _ ?_)
theorem i0A {h h3:H} {s:Nat} {A:Answer} (client seq:Int) (B7:Int) (B4:Int) (B8:BL) (D9:BL) (p5:Bool) (n9:Bool) (p7:BL) (j9:Int) (p6:Option BL) (p8:Nat) (I9:Option (List Change)) (A9:Int) (r8:BL) (u7:BL) (F5:Int) (M2:BL) (W0:Int) (V8:Int) (F8:Option BL) (hk:B7 = 3 \/ B7 = 5 \/ B7 = 6) (hok:c0j ⟨B7,⟨B4,B8,D9,⟨p5,n9,p7,⟨j9,p6,p8⟩⟩,I9,A9⟩,⟨r8,u7⟩,F5,M2,W0,V8,F8⟩ = true) (hl:(ls I9).length < 9223372036854775807)
  (e:W K 42 [.one (.ptr s 0 0),.agg [ii B7,ii B4,.str B8,.str D9,.bool p5,.bool n9,.str p7,ii j9,bs p6,.flt p8,sl 6 l8 I9,ii A9,.str r8,.str u7,ii F5,.str M2,ii W0,ii V8,bs F8]] ((h.new ⟨0,[19],true,[ii B7,ii B4,.str B8,.str D9,.bool p5,.bool n9,.str p7,ii j9,bs p6,.flt p8,sl 6 l8 I9,ii A9,.str r8,.str u7,ii F5,.str M2,ii W0,ii V8,bs F8]⟩).new R9) = some (.ret (.agg (c6 A)) h3)) (hf:h3.f (h.next + 1) = some R9) :
  W K 12 [.one (.ptr s 0 0),.one (ii client),.one (ii seq),.agg [ii B7,ii B4,.str B8,.str D9,.bool p5,.bool n9,.str p7,ii j9,bs p6,.flt p8,sl 6 l8 I9,ii A9,.str r8,.str u7,ii F5,.str M2,ii W0,ii V8,bs F8]] h = some (.ret (.agg (c6 A)) (h3.set (h.next + 1) ⟨0,[11],true,c6 A⟩)):=by
 have hr:=h0S B7 B4 B8 D9 p5 n9 p7 j9 p6 p8 I9 A9 r8 u7 F5 M2 W0 V8 F8 hl
 rw [hok] at hr
 have hCl:(c6 A).length = 11:=rfl
 have hCs:sub (c6 A) 0 11 = some (c6 A):=L4 hCl
 generalize c6 A = C at *
 rcases hk with rfl | rfl | rfl
 ·refine zzD func12 rfl ?_
  simp only [f12]
  intro Q4 Y4
  repeat' (first
   | (replace Y4:=Y4;simp [-lay,J2,hCl,hCs,hr,e,hf])
   | refine Y4 _ _ _ ?_)
 ·refine zzD func12 rfl ?_
  simp only [f12]
  intro Q5 Y5
  repeat' (first
   | (replace Y5:=Y5;simp [-lay,J2,hCl,hCs,hr,e,hf])
   | refine Y5 _ _ _ ?_)
 ·refine zzD func12 rfl ?_
  simp only [f12]
  intro Q6 Y6
  repeat' (first
   | (replace Y6:=Y6;simp [-lay,J2,hCl,hCs,hr,e,hf])
   | refine Y6 _ _ _ ?_)
theorem t0C {h:H} {s:AS} {x:Span} (a:Sl h 2 I5 s [x]):b0s h [.one s] = some [.one (sl 2 I5 (some [x]))]:=by
 rcases a with ⟨_,e⟩ | ⟨b,v,z,rfl,ar⟩
 ·cases e
 have hr:=V0 (l:=[]) a0w ar
 simp only [oqc,Nat.zero_mul] at hr
 unfold b0s
 rw [if_neg (by simp [M5,c7])]
 have hm:(cat I5 [x]).mapM (N5 h 63) = some (cat I5 [x]):=f0m (n:=62) (by simp [cat,I5,v9,c7]) (by simp [cat,I5])
 simp only [List.mapM_cons,List.mapM_nil,d0b,N5,hr,hm,oqE,oqS,oqP,sl]
theorem s0x (h:H):W K 9 [] h = some (.ret (.one (.slc h.next 0 0 1 4 none)) (h.new ⟨0,[4],true,[.str [],.str [],ii 0,ii 1]⟩)):=by
 refine zzD func9 rfl ?_
 simp only [f9]
 intro Q1 Y1
 repeat' (first
  | (replace Y1:=Y1;simp)
  | refine Y1 _ _ _ ?_)
theorem t0H {h:H} {b:Nat} (hb:b < h.next) (hf:h.f b = some ⟨0,[4],true,[.str [],.str [],ii 0,ii 1]⟩) :
  ∃ h' sp p,W K 8 [.one (.slc b 0 0 1 4 none)] h = some (.ret (.one (.ptr h.next 0 0)) h')/\StAt h' h.next sp [p] 1 0/\p.t = ⟨⟨[],[]⟩,1,false,[],[]⟩/\Kept h h'/\∀ x ∈ fpS h.next sp [p],h.next <= x:=by
 obtain ⟨P,hP⟩:∃ P:CR->Prop,P = fun r=>∃ h' sp p,r = .ret (.one (.ptr h.next 0 0)) h'/\StAt h' h.next sp [p] 1 0/\p.t = ⟨⟨[],[]⟩,1,false,[],[]⟩/\Kept h h'/\∀ x ∈ fpS h.next sp [p],h.next <= x:=⟨_,rfl⟩
 suffices hh:∃ r,W K 8 [.one (.slc b 0 0 1 4 none)] h = some r/\P r by
  rw [hP] at hh
  obtain ⟨r,e,h',sp,p,rfl,q⟩:=hh
  exact ⟨h',sp,p,e,q⟩
 have m0:¬ b = h.next:=by omega
 have m1:¬ b = h.next + 1:=by omega
 obtain ⟨h2,hh2⟩:∃ h2,(((h.new ⟨0,[3],true,[.nilslc,ii 0,ii 0]⟩).new ⟨0,[4],true,[.str [],.str [],ii 0,ii 1]⟩).new ⟨0,[2],true,[.str [],.str []]⟩) = h2:=⟨_,rfl⟩
 have n2:h2.next = h.next + 1 + 1 + 1:=by rw [<- hh2];simp
 obtain ⟨s3,h3,e3,a3,k1,k2,k3⟩:=P7 (P:=prog) (h:=h2) (s:=.nilslc) (l:=[]) (t:=72) underlying72 (by simp) (by simp) Tryz.bytes43 (by omega) a0w (a:=.slc (h.next + 1 + 1) 0 0 1 2 none) (m:=[⟨[],[]⟩]) (.inl ⟨rfl,rfl⟩) rfl (by rw [<- hh2];simp [C6,cat,sub,I5]) (by simp) (by simp [N3])
 obtain ⟨b3,v3,z3,hs3,ar3⟩:=a3
 simp only [oql,oqb,oqc,Nat.zero_add] at hs3 ar3
 have a3:Sl h3 2 I5 s3 [⟨[],[]⟩]:=.inr ⟨b3,v3,z3,hs3,ar3⟩
 have own3:∀ x,z7 s3 = some x->h2.next <= x/\x < h3.next:=fun x hx=>by
  refine ⟨?_,a3.lt hx⟩
  rcases k3 x hx with e | e
  ·cases e
  ·exact e
 have f2s:h2.f h.next = some ⟨0,[3],true,[.nilslc,ii 0,ii 0]⟩:=by rw [<- hh2];simp [L8]
 have f2x:h2.f (h.next + 1) = some ⟨0,[4],true,[.str [],.str [],ii 0,ii 1]⟩:=by rw [<- hh2];simp [L8]
 have f3s:h3.f h.next = some ⟨0,[3],true,[.nilslc,ii 0,ii 0]⟩:=by rw [k2 _ (by omega) (by simp [z7])];exact f2s
 have f3x:h3.f (h.next + 1) = some ⟨0,[4],true,[.str [],.str [],ii 0,ii 1]⟩:=by rw [k2 _ (by omega) (by simp [z7])];exact f2x
 have k32:∀ x,x < h.next->h3.f x = h.f x:=fun x hx=>by rw [k2 x (by omega) (by simp [z7]),<- hh2,p0 (by simp;omega),p0 (by simp;omega),p0 (by omega)]
 obtain ⟨h4,hh4⟩:∃ h4,h3.set h.next ⟨0,[3],true,[.nilslc,ii 1,ii 0]⟩ = h4:=⟨_,rfl⟩
 have n4:h4.next = h3.next:=by rw [<- hh4];simp
 have f4s:h4.f h.next = some ⟨0,[3],true,[.nilslc,ii 1,ii 0]⟩:=by rw [<- hh4];simp
 have f4x:h4.f (h.next + 1) = some ⟨0,[4],true,[.str [],.str [],ii 0,ii 1]⟩:=by rw [<- hh4,l0,if_neg (by omega)];exact f3x
 have t1:=x0l h4
 have t2:=r0N (h4.new ⟨0,[1],true,[.nilslc]⟩)
 simp only [A6] at t2
 obtain ⟨h5,hh5⟩:∃ h5,(((h4.new ⟨0,[1],true,[.nilslc]⟩).new ⟨0,[1],true,[.nilslc]⟩).new (Y0 ⟨[],[]⟩ 1 false (.ptr h4.next 0 0) (.ptr (h4.next + 1) 0 0))).new ⟨0,[1],true,[.ptr (h4.next + 1 + 1) 0 0]⟩ = h5:=⟨_,rfl⟩
 have n5:h5.next = h4.next + 1 + 1 + 1 + 1:=by rw [<- hh5];simp
 obtain ⟨PT,hPT⟩:∃ p:Pt,p = ⟨h4.next + 1 + 1,⟨⟨[],[]⟩,1,false,[],[]⟩,[h4.next + 1 + 1,h4.next,h4.next + 1]⟩:=⟨_,rfl⟩
 have hPd:X2 PT = [.ptr (h4.next + 1 + 1) 0 0]:=by rw [hPT];rfl
 obtain ⟨sp,h6,e6,⟨b6,v6,z6,hs6,ar6⟩,j1,j2,j3⟩:=P7 (P:=prog) (h:=h5) (s:=.nilslc) (l:=[]) (t:=95) underlying95 (by simp) (by simp) Tryz.bytes98 (by omega) c0d (a:=.slc (h4.next + 1 + 1 + 1) 0 0 1 1 none) (m:=[PT]) (.inl ⟨rfl,rfl⟩) rfl (by rw [<- hh5];simp [C6,cat,sub,hPd]) (by simp) (by simp [N3])
 simp only [oql,oqb,oqc,Nat.zero_add] at hs6 ar6
 have a6:Sl h6 1 X2 sp [PT]:=.inr ⟨b6,v6,z6,hs6,ar6⟩
 have own6:∀ x,z7 sp = some x->h5.next <= x/\x < h6.next:=fun x hx=>by
  refine ⟨?_,a6.lt hx⟩
  rcases j3 x hx with e | e
  ·cases e
  ·exact e
 have k6:∀ x,x < h5.next->h6.f x = h5.f x:=fun x hx=>j2 x hx (by simp [z7])
 have k54:∀ x,x < h4.next->h5.f x = h4.f x:=fun x hx=>by rw [<- hh5,p0 (by simp;omega),p0 (by simp;omega),p0 (by simp;omega),p0 (by omega)]
 have f6s:h6.f h.next = some ⟨0,[3],true,[.nilslc,ii 1,ii 0]⟩:=by rw [k6 _ (by omega),k54 _ (by omega)];exact f4s
 have f6x:h6.f (h.next + 1) = some ⟨0,[4],true,[.str [],.str [],ii 0,ii 1]⟩:=by rw [k6 _ (by omega),k54 _ (by omega)];exact f4x
 obtain ⟨h7,hh7⟩:∃ h7,h6.set h.next ⟨0,[3],true,[sp,ii 1,ii 0]⟩ = h7:=⟨_,rfl⟩
 have n7:h7.next = h6.next:=by rw [<- hh7];simp
 have k7:∀ x,x ≠ h.next->h7.f x = h6.f x:=fun x hx=>by rw [<- hh7,l0,if_neg hx]
 have w7:StAt h7 h.next sp [PT] 1 0:=by
  refine ⟨by omega,by rw [<- hh7];simp,a6.keep (by omega) fun x hx=>k7 x (by have:=own6 x hx;omega),fun p hp=>?_, ?_⟩
  ·rw [List.mem_singleton.1 hp,hPT]
   have g1:∀ x,h4.next <= x->x < h5.next->h7.f x = h5.f x:=fun x hx hx2=>by rw [k7 x (by omega),k6 x hx2]
   refine ⟨h4.next,h4.next + 1,none,none,by simp only;omega, ?_,⟨by omega,.nilslc, ?_,.inl ⟨rfl,rfl⟩,rfl,by simp⟩,⟨by omega,.nilslc, ?_,.inl ⟨rfl,rfl⟩,rfl,by simp⟩,rfl⟩
   ·simp only;rw [g1 _ (by omega) (by omega),<- hh5];simp [L8]
   ·rw [g1 _ (by omega) (by omega),<- hh5];simp [L8]
   ·rw [g1 _ (by omega) (by omega),<- hh5];simp [L8]
  ·simp only [fpS,List.flatMap_cons,List.flatMap_nil,List.append_nil,hPT]
   cases ho:z7 sp with
   | none=>simp;omega
   | some x=>have:=own6 x ho;simp;omega
 have kp7:Kept h h7:=⟨by omega,fun x hx=>by rw [k7 x (by omega),k6 x (by omega),k54 x (by omega),<- hh4,l0,if_neg (by omega),k32 x hx]⟩
 have low7:∀ x ∈ fpS h.next sp [PT],h.next <= x:=fun x hx=>by
  simp only [fpS,List.flatMap_cons,List.flatMap_nil,List.append_nil,hPT,oqf,oqe,Option.mem_toList,List.not_mem_nil,or_false] at hx
  rcases hx with e | e | e | e | e
  ·omega
  ·have:=own6 x e;omega
  ·omega
  ·omega
  ·omega
 obtain ⟨h8,e8,w8,g8⟩:=r0k w7 (by simp)
 have hso:Z5 pLt [PT] = [PT]:=rfl
 rw [hso] at w8 g8
 have kp8:Kept h h8:=⟨by have:=g8.next;omega,fun x hx=>by rw [g8.keep x (by omega) (fun e=>by have:=low7 x e;omega)];exact kp7.2 x hx⟩
 have a7:Sl h7 2 I5 s3 [⟨[],[]⟩]:=a3.keep (by omega) fun x hx=>by
  have:=own3 x hx
  rw [k7 x (by omega),k6 x (by omega),k54 x (by omega),<- hh4,l0,if_neg (by omega)]
 have eA:W K 31 [.one s3] h7 = some (.ret (.one (.bool true)) h7):=(j0i [⟨[],[]⟩] (by simp)).view hp (t0C a7)
 have d1:(1:Int) < 1 ↔ False:=by simp
 refine zzE func8 rfl ?_
 simp only [Tryz.f8]
 intro Q2 Y2
 repeat' (first
  | (replace Y2:=Y2;simp)
  | refine Y2 _ _ _ ?_
  | (first | refine dF (id:=9) c0n [] ?_ | refine dF (id:=10) g0z [(4,9),(4,10),(6,9),(6,10),(8,9),(8,10)] ?_))
 refine S0 hp 1 (fun i fr hh=>((i = 0->hh = h.new ⟨0,[3],true,[.nilslc,ii 0,ii 0]⟩)/\(i ≠ 0->hh = h7))/\∃ j:Nat->AV,fr = ((.one (.slc b 0 0 1 4 none))::j 1::j 2::(.one (.ptr h.next 0 0))::(.one (if i = 0 then .nilslc else s3))::j 5::j 6::j 7::j 8::(.one (.slc b 0 0 1 4 none))::(.one (ii 1))::(.one (ii i))::j 12::j 13::j 14::j 15::j 16::j 17::j 18::j 19::j 20::j 21::j 22::j 23::j 24::j 25::j 26::j 27::j 28::j 29::j 30::j 31::j 32::j 33::j 34::j 35::j 36::j 37::j 38::j 39::j 40::j 41::j 42::j 43::j 44::j 45::j 46::j 47::j 48::j 49::j 50::j 51::j 52::j 53::j 54::j 55::j 56::j 57::j 58::j 59::j 60::j 61::j 62::j 63::j 64::j 65::j 66::[])) ?_ ?_ _ _ ⟨⟨fun _=>rfl,fun h=>absurd rfl h⟩,y0 (by simp)⟩
 ·rintro i fr hh hi ⟨⟨i1,i2⟩,j,rfl⟩
  obtain rfl:i = 0:=by omega
  obtain rfl:=i1 rfl
  simp only [if_true]
  have hix:=U5 (P:=prog) (size:=4) (b:=b) (v:=0) (n:=1) (i:=0) underlying25 (by simp) (by omega) (by omega)
  simp only [Nat.zero_mul] at hix
  have q0:¬ h.next = h4.next:=by omega
  have q1:¬ h.next = h4.next + 1:=by omega
  have q2:¬ h.next = h4.next + 1 + 1:=by omega
  have q3:¬ h.next = h4.next + 1 + 1 + 1:=by omega
  have q4:¬ h.next + 1 = h4.next:=by omega
  have q5:¬ h.next = h4.next + 1:=by omega
  have q6:¬ h.next = h4.next + 1 + 1:=by omega
  have q7:¬ h.next + 1 = h4.next + 1 + 1 + 1:=by omega
  have q8:¬ h.next + 1 = h4.next + 1:=by omega
  have q9:¬ h.next + 1 = h4.next + 1 + 1:=by omega
  simp only [Y0] at hh5
  first | (refine s9 ?_;intro Q3 Y3) | have Y3:=oqk
  repeat' (first
   | (replace Y3:=Y3;simp [-lay,L5,L6,O6,T8,hix,m0,hf,hh2,e3,f3s,f3x,S8,X8,hh4,f4s,f4x,t1,t2,hh5,e6,f6s,hh7,q0,q1,q4])
   | (refine Y3 _ _ _ ?_;clear Y3 Q3;first | simp only [] | simp [-lay,L5,L6,O6,T8,hix,m0,m1,hf,hh2,e3,f3s,f3x,S8,X8,hh4,f4s,f4x,t1,t2,hh5,e6,f6s,f6x,hh7,q0,q1,q2,q3,q4,q5,q6,q7,q8,q9] | skip)
   | (refine F6 (by assumption) ?_;(try clear Y3);first | simp only [] | simp [-lay,L5,L6,O6,T8,hix,m0,m1,hf,hh2,e3,f3s,f3x,S8,X8,hh4,f4s,f4x,t1,t2,hh5,e6,f6s,f6x,hh7,q0,q1,q2,q3,q4,q5,q6,q7,q8,q9] | skip)
   | ((fail_if_success replace Y3:=Y3);(first | refine s9 ?_ | refine A1 ?_ | refine A4 ?_);intro Q3 Y3)
   | (first | refine dF (id:=9) c0n [] ?_ | refine dF (id:=10) g0z [(4,9),(4,10),(6,9),(6,10),(8,9),(8,10)] ?_))
  exact ⟨⟨fun h=>absurd h (by simp),fun _=>trivial⟩,y0 (by simp;rfl)⟩
 ·rintro fr hh ⟨⟨i1,i2⟩,j,rfl⟩
  obtain rfl:=i2 (by simp)
  simp only [Nat.one_ne_zero,if_false]
  first | (refine s9 ?_;intro Q4 Y4) | have Y4:=oqk
  repeat' (first
   | (replace Y4:=Y4;simp [eA,e8])
   | (refine Y4 _ _ _ ?_;clear Y4 Q4;first | simp only [] | simp [eA,e8] | skip)
   | (refine F6 (by assumption) ?_;(try clear Y4);first | simp only [] | simp [eA] | skip)
   | ((fail_if_success replace Y4:=Y4);(first | refine s9 ?_ | refine A1 ?_ | refine A4 ?_);intro Q4 Y4)
   | (first | refine dF (id:=9) c0n [] ?_ | refine dF (id:=10) g0z [(4,9),(4,10),(6,9),(6,10),(8,9),(8,10)] ?_))
  rw [hP]
  exact ⟨h8,sp,PT,rfl,w8,by rw [hPT],kp8,low7⟩
end Go.Proofs.YtiagcnfmgigllaaGreat
