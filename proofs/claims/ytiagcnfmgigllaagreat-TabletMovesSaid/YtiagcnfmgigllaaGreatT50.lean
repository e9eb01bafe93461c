/- A part of a proof over the abstract machine. No conditions. -/
import Derived.Test.YtiagcnfmgigllaaGreatT43
import Derived.Test.YtiagcnfmgigllaaGreatC15t
set_option linter.all false
namespace Go.Proofs.YtiagcnfmgigllaaGreat
open Go Go.Ab Wm NumPlain
set_option maxRecDepth 10000
set_option maxHeartbeats 4000000
structure AnsRd (A:Answer):Prop where
 ok:c0B A = true
 rd:∀ x ∈ ls A.rows,RowRd x.r∧rowCopy x.r = x.r
abbrev rdH (h:H) (o:Option BL):H:=((h.new ⟨0,[1],true,[.bool false]⟩).new (rdB o)).new ⟨0,[1],true,[.ptr (h.next + 1) 0 0]⟩
theorem x0X {f:Nat} {g:j0L} (hq:K.prim f = some g) (args:List AV) (h:H):W K f args h = g (W K) args h:=by
 rw [t0e hp];unfold callF;rw [hq]
theorem u0v {h h':H} {o l:Option BL} {g:Nat} {caps:List AS} {v:AV} (e:W K g (.one (.ptr (h.next + 1) 0 0)::caps.map AV.one) (rdH h o) = some (.ret v h'))
  (k0:h'.f h.next = some ⟨0,[1],true,[.bool false]⟩) (k1:h'.f (h.next + 1) = some (rdB l)) (k2:h'.f (h.next + 2) = some ⟨0,[1],true,[.ptr (h.next + 1) 0 0]⟩) :
  W K 52 [.one (bs o),.one (.fn g [] caps)] h = some (.ret (.one (.bool (decide ((ls l).length = 0)))) (h'.set h.next ⟨0,[1],true,[.bool (decide ((ls l).length = 0))]⟩)):=by
 rw [x0X rfl]
 have hP:(i0p S).P = Tryz.prog:=rfl
 simp only [rdH] at e
 have hs:=n0D ((h.new ⟨0,[1],true,[.bool false]⟩).new ⟨0,[1],true,[bs o]⟩) ⟨0,[1],true,[.nilptr]⟩ ⟨0,[1],true,[.ptr (h.next + 1) 0 0]⟩
 simp only [A1] at hs
 have k2':h'.f (h.next + 1 + 1) = _:=k2
 simp [bin,b0J,f0O,a0c,hP,f0f,rgn,op1,O6,c0l,S1,RdFn.of,b0A,a0g,h0h,Tryz.f52,L4,b0I,K4,hs,e,k0,k1,k2']
 have hb:(((ls l).length:Int) == 0) = decide (ls l = []):=by cases ls l <;> simp <;> omega
 simp [hb]
abbrev hA:H:=(H.empty.new a0w).new a0w
theorem t0s {l:List Named} (ok:TblOk l):(c0q l).length ≤ 14000:=by
 have:=i0n (f:=I1) (n:=421) (l:=l) fun x hx=>i0z (ok.nm x hx)
 have:=ok.len
 simp only [c0q,L7,oqa,g9];omega
theorem t0j {l:List Tld} {m:Nat} (ok:CchOk l) (hm:∀ x ∈ l,(ls x.b).length ≤ m):(b0C l).length ≤ 4 + (9 + m) * l.length:=by
 have:=i0n (f:=a0O) (n:=9 + m) (l:=l) fun x hx=>by
  have:=hm x hx
  simp only [a0O,L7,D7,oqb,oqa,g9];omega
 simp only [b0C,L7,oqa,g9];omega
theorem l0G {sp:Span} {gen:Int} {l:List Named} {c:List Tld} (os:H5 sp = true) (ok:TblOk l) (okc:CchOk c) {m:Nat} (hm:∀ x ∈ c,(ls x.b).length ≤ m):(Z7 sp gen l c).length ≤ 14050 + (9 + m) * c.length:=by
 have h1:=t0s ok
 have h2:=t0j okc hm
 simp only [H5,oqd,oqj] at os
 simp only [Z7,I9,D7,L7,oqa,g9];omega
theorem p0t {sp:Span} {gen:Int} {l:List Named} {c:List Tld} (os:H5 sp = true) (ok:TblOk l) (okc:CchOk c):(Z7 sp gen l c).length ≤ 1099511627776:=by
 have h1:=l0G (gen:=gen) os ok okc (m:=1048576) fun x hx=>(a0n (okc.ok x hx)).2.2.2.2
 have h2:=okc.len
 have:(9 + 1048576) * c.length ≤ (9 + 1048576) * 256:=Nat.mul_le_mul_left _ h2
 omega
def stA (b:BL):Answer:=⟨0,none,⟨[],[]⟩,0,0,0,0,0,[],some b⟩
theorem x0i {h:H} {s:Nat} {sp:AS} {l1 l2:List Pt} {p:Pt} {last code:Int} (B6:Int) (D4:Int) (F7:BL) (I5:BL) (y8:Bool) (v9:Bool) (y7:BL) (p8:Int) (y6:Option BL) (y9:Nat) (J1:Option (List Change)) (D0:Int) (u7:BL) (y0:BL) (F8:Int) (L3:BL) (a0j:Int) (a0k:Int) (I7:Option BL) (w:StAt h s sp (l1++p::l2) last code) (hn:(l1++p::l2).length < 1000) (hi:idx (fun q=>d0h ⟨u7,y0⟩ F8 q.t) (l1++p::l2) = l1.length)
  (os:H5 p.t.span = true) (ok:TblOk p.t.rows) (okc:CchOk p.t.cache) :
  ∃ h',W K 40 [.one (.ptr s 0 0),.agg [ii B6,ii D4,.str F7,.str I5,.bool y8,.bool v9,.str y7,ii p8,bs y6,.flt y9,sl 6 l7 J1,ii D0,.str u7,.str y0,ii F8,.str L3,ii a0j,ii a0k,bs I7]] h = some (.ret (.agg (l8 (stA (Z7 p.t.span p.t.gen p.t.rows p.t.cache)))) h') ∧
   StAt h' s sp (l1++⟨p.d,{ p.t with fr:=true },p.fp⟩::l2) last code∧Fp h h' (fpS s sp (l1++p::l2)) (fpS s sp (l1++⟨p.d,{ p.t with fr:=true },p.fp⟩::l2)):=by
 obtain ⟨a1,a2,a3⟩:=w.at
 obtain ⟨pr,pc,qr,qc,t1,t2,t3,t4,t5⟩:=a1
 have hnd:=a2
 rw [t5] at hnd
 simp only [List.nodup_cons,oqf,oqe,Option.mem_toList,not_or] at hnd
 obtain ⟨⟨x1,x2,x3,x4⟩,⟨x5,x6,x7⟩,⟨x8,x9⟩,x10⟩:=hnd
 obtain ⟨B0,hB0⟩:∃ B:Blk,B = ⟨0,[19],true,[ii B6,ii D4,.str F7,.str I5,.bool y8,.bool v9,.str y7,ii p8,bs y6,.flt y9,sl 6 l7 J1,ii D0,.str u7,.str y0,ii F8,.str L3,ii a0j,ii a0k,bs I7]⟩:=⟨_,rfl⟩
 have w2:=(w.new B0).new a0w
 have e1:=x0d w2 hn ⟨u7,y0⟩ F8
 rw [hi] at e1
 simp only at e1
 obtain ⟨h3,hh3⟩:∃ h3,((h.new B0).new a0w).set p.d (a0l p.t.span p.t.gen true (.ptr pr 0 0) (.ptr pc 0 0)) = h3:=⟨_,rfl⟩
 have n3:h3.next = h.next + 1 + 1:=by rw [← hh3];simp
 have k3:∀ b,b < h.next→b ≠ p.d→h3.f b = h.f b:=fun b hb hbd=>by rw [← hh3,p0,if_neg hbd,u4 (by simp;omega),u4 (by omega)]
 have d3:h3.f p.d = some (a0l p.t.span p.t.gen true (.ptr pr 0 0) (.ptr pc 0 0)):=by rw [← hh3];simp
 have t3':Bx (h3.new ⟨0,[1],true,[.nilslc]⟩) pr 2 c8 p.t.rows qr:=(t3.keep (h':=h3) (by omega) (k3 _ t3.1 (Ne.symm x1)) fun b hb=>k3 b (t3.lt hb) (fun e=>x3 (by rw [← e];exact hb))).new _
 have t4':Bx (h3.new ⟨0,[1],true,[.nilslc]⟩) pc 3 G9 p.t.cache qc:=(t4.keep (h':=h3) (by omega) (k3 _ t4.1 (Ne.symm x2)) fun b hb=>k3 b (t4.lt hb) (fun e=>x4 (by rw [← e];exact hb))).new _
 have hw0:Wr (h3.new ⟨0,[1],true,[.nilslc]⟩) h3.next none []:=⟨by simp,.nilslc,rfl,by simp,by simp,rfl⟩
 have e2:=r0P h3
 have d3n:(h3.new ⟨0,[1],true,[.nilslc]⟩).f p.d = some (a0l p.t.span p.t.gen true (.ptr pr 0 0) (.ptr pc 0 0)):=by rw [u4 (by omega)];exact d3
 obtain ⟨h5,q5,e5,w5,o5⟩:=B0i hw0 os d3n (by simp;omega) (by omega) (by simp) t3' t4' ok okc
  ⟨by have:=t3.1;omega,by simp,fun e=>by have:=t3.lt e;omega,by simp⟩ ⟨by have:=t4.1;omega,by simp,fun e=>by have:=t4.lt e;omega,by simp⟩ (by simpa using p0t os ok okc)
 rw [oql] at w5
 obtain ⟨o,ho,e6⟩:=x0h w5 (p0t os ok okc)
 have hne:Z7 p.t.span p.t.gen p.t.rows p.t.cache ≠ []:=fun e=>by
  have:=congrArg List.length e
  simp [Z7,I9,D7,g9] at this
 obtain rfl:=A0a ho hne
 have n5:=o5.next
 simp only [A1] at n5
 have k5:∀ b,b < h3.next→h5.f b = h3.f b:=fun b hb=>by rw [o5.keep b (by simp;omega) (by omega) (by simp),u4 (by omega)]
 obtain ⟨TB,hTB⟩:∃ TB,Z7 p.t.span p.t.gen p.t.rows p.t.cache = TB:=⟨_,rfl⟩
 rw [hTB] at e6 ⊢
 have kk:∀ b,b < h.next→b ≠ p.d→(h5.set (h.next + 1) ⟨0,[11],true,l8 (stA TB)⟩).f b = h.f b:=fun b hb hbd=>by rw [p0,if_neg (by omega),k5 b (by omega),k3 b hb hbd]
 have hfp:∀ b ∈ p.fp,b < h.next:=fun b hb=>w.fp_lt b (by rw [b0i];simp [hb])
 have tb:TabAt (h5.set (h.next + 1) ⟨0,[11],true,l8 (stA TB)⟩) p.d { p.t with fr:=true } p.fp:=by
  refine ⟨pr,pc,qr,qc,by simp;omega, ?_,t3.keep (by simp;omega) (kk _ t3.1 (Ne.symm x1)) fun b hb=>kk b (t3.lt hb) (fun e=>x3 (by rw [← e];exact hb)),t4.keep (by simp;omega) (kk _ t4.1 (Ne.symm x2)) fun b hb=>kk b (t4.lt hb) (fun e=>x4 (by rw [← e];exact hb)),t5⟩
  rw [p0,if_neg (by omega),k5 _ (by omega)];exact d3
 obtain ⟨st,fp⟩:=w.put (h':=h5.set (h.next + 1) ⟨0,[11],true,l8 (stA TB)⟩) (p':=⟨p.d,{ p.t with fr:=true },p.fp⟩) rfl tb ⟨by simp;omega,fun b hb hbn=>kk b hb (fun e=>hbn (by rw [e,t5];simp)),fun b hb=>.inl hb⟩ a2
 refine ⟨_, ?_,st,fp⟩
 clear st fp tb kk
 obtain ⟨b,v,z,fx,ex,M,hspe,ar,hMb,hbl,hix,hM1,hM2,hset⟩:=w0D w.spine
 have hsn:=w.lt
 have f0:h.f s = some ⟨0,[3],true,[sp,ii last,ii code]⟩:=w.blk
 have hsd:s ≠ p.d:=fun e=>(a3 p.d (by rw [t5];simp)).1 e.symm
 have hbd:b ≠ p.d:=fun e=>(a3 p.d (by rw [t5];simp)).2.1 (by rw [hspe,e];rfl)
 have m0:¬ s = h.next:=by omega
 have m1:¬ s = h.next + 1:=by omega
 have m2:¬ b = h.next:=by omega
 have m3:¬ b = h.next + 1:=by omega
 have m4:¬ p.d = h.next:=by omega
 have m5:¬ p.d = h.next + 1:=by omega
 have m6:¬ s = h3.next:=by omega
 have m7:¬ b = h3.next:=by omega
 have m8:¬ p.d = h3.next:=by omega
 have f3:h3.f s = some ⟨0,[3],true,[sp,ii last,ii code]⟩:=by rw [k3 s hsn hsd];exact f0
 have f3b:h3.f b = some ⟨v,M.length::ex,fx,M⟩:=by rw [k3 b hbl hbd];exact hMb
 have f5:h5.f (h.next + 1) = some a0w:=by rw [k5 _ (by omega),← hh3,p0,if_neg (by omega)];simp
 have d3':¬ (l1.length:Int) < 0:=by omega
 have d4':decide ((l1.length:Int) < 0) = false:=decide_eq_false d3'
 generalize l1.length = N at *
 simp only [a0l] at t2 hh3
 rw [hB0] at e1 hh3
 simp only [stA,l8,Wm.sl_none]
 refine A9 hp rfl rfl rfl Tryz.func40 rfl (by simp [Tryz.f40]) ?_
 simp only [Tryz.f40]
 refine c7 ?_;intro Q1 hQ1
 repeat' (first
  | (replace hQ1:=hQ1;simp [-lay,N3,N5,U8,e1,f0,m0,m1,d3',hix,hMb,m2,m3,hM1,hM2,t2,m4,m5,hh3,e2,f3,m6,f3b,m7,e5,e6,f5])
  | refine hQ1 _ _ _ ?_)
end Go.Proofs.YtiagcnfmgigllaaGreat
