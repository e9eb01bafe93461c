/- A part of a proof over the abstract machine. No conditions. -/
import Derived.Test.YtiagcnfmgigllaaGreatT43
import Derived.Test.YtiagcnfmgigllaaGreatC15t
set_option linter.all false
namespace Go.Proofs.YtiagcnfmgigllaaGreat
open Go Go.Ab Wm NumPlain Go.Proofs.Tryz
set_option maxRecDepth 10000
set_option maxHeartbeats 4000000
theorem G0P (n:Int) (h:H):B6 prog 5 47 (.int .u8 n) h = some (.val (.one (.int .i64 (IntKind.i64.wrap n))) h):=by simp [B6]
theorem B0q (n:Int) (h:H):B6 prog 5 3 (.int .u8 n) h = some (.val (.one (.int .i64 (IntKind.i64.wrap n))) h):=by simp [B6]
theorem C0g (n:Int) (h:H):B6 prog 138 3 (.int .u32 n) h = some (.val (.one (.int .i64 (IntKind.i64.wrap n))) h):=by simp [B6]
structure AnsRd (A:Answer):Prop where
 ok:d0G A = true
 rd:∀ x ∈ ls A.rows,RowRd x.r/\rowCopy x.r = x.r
abbrev rdH (h:H) (o:Option BL):H:=((h.new ⟨0,[1],true,[.bool false]⟩).new (rdB o)).new ⟨0,[1],true,[.ptr (h.next + 1) 0 0]⟩
theorem z0L {f:Nat} {g:l0M} (hq:K.prim f = some g) (args:List AV) (h:H):W K f args h = g (W K) args h:=by
 rw [u0d hp];unfold callF;rw [hq]
theorem k0g {h h':H} {o l:Option BL} {g:Nat} {caps:List AS} {v:AV} (e:W K g (.one (.ptr (h.next + 1) 0 0)::caps.map AV.one) (rdH h o) = some (.ret v h'))
  (k0:h'.f h.next = some ⟨0,[1],true,[.bool false]⟩) (k1:h'.f (h.next + 1) = some (rdB l)) (k2:h'.f (h.next + 2) = some ⟨0,[1],true,[.ptr (h.next + 1) 0 0]⟩) :
  W K 52 [.one (bs o),.one (.fn g [] caps)] h = some (.ret (.one (.bool (decide ((ls l).length = 0)))) (h'.set h.next ⟨0,[1],true,[.bool (decide ((ls l).length = 0))]⟩)):=by
 rw [z0L rfl]
 have hP:(i0U S).P = prog:=rfl
 simp only [rdH] at e
 have hs:=n0R ((h.new ⟨0,[1],true,[.bool false]⟩).new ⟨0,[1],true,[bs o]⟩) ⟨0,[1],true,[.nilptr]⟩ ⟨0,[1],true,[.ptr (h.next + 1) 0 0]⟩
 simp only [A6] at hs
 have k2':h'.f (h.next + 1 + 1) = _:=k2
 simp [bin,b0o,d0W,a0L,hP,f0Z,rgn,op1,U6,d0g,W6,RdFn.of,c0p,a0P,i0g,f52,O8,c0z,O4,hs,e,k0,k1,k2']
 have hb:(((ls l).length:Int) == 0) = decide (ls l = []):=by cases ls l <;> simp <;> omega
 simp [hb]
abbrev hA:H:=(H.empty.new R9).new R9
theorem u0z {l:List Named} (ok:TblOk l):(c0i l).length <= 14000:=by
 have:=i0Z (f:=K9) (n:=421) (l:=l) fun x hx=>j0d (ok.nm x hx)
 have:=ok.len
 simp only [c0i,N8,oqa,c8];omega
theorem u0j {l:List Tld} {m:Nat} (ok:CchOk l) (hm:∀ x ∈ l,(ls x.b).length <= m):(b0M l).length <= 4 + (9 + m) * l.length:=by
 have:=i0Z (f:=b0q) (n:=9 + m) (l:=l) fun x hx=>by
  have:=hm x hx
  simp only [b0q,N8,I1,oqb,oqa,c8];omega
 simp only [b0M,N8,oqa,c8];omega
theorem i0C {sp:Span} {gen:Int} {l:List Named} {c:List Tld} (os:K4 sp = true) (ok:TblOk l) (okc:CchOk c) {m:Nat} (hm:∀ x ∈ c,(ls x.b).length <= m):(a0E sp gen l c).length <= 14050 + (9 + m) * c.length:=by
 have h1:=u0z ok
 have h2:=u0j okc hm
 simp only [K4,oqd,oqj] at os
 simp only [a0E,L7,I1,N8,oqa,c8];omega
theorem p0V {sp:Span} {gen:Int} {l:List Named} {c:List Tld} (os:K4 sp = true) (ok:TblOk l) (okc:CchOk c):(a0E sp gen l c).length <= 1099511627776:=by
 have h1:=i0C (gen:=gen) os ok okc (m:=1048576) fun x hx=>(a0B (okc.ok x hx)).2.2.2.2
 have h2:=okc.len
 have:(9 + 1048576) * c.length <= (9 + 1048576) * 256:=Nat.mul_le_mul_left _ h2
 omega
def stA (b:BL):Answer:=⟨0,none,⟨[],[]⟩,0,0,0,0,0,[],some b⟩
theorem w0E {h:H} {s:Nat} {sp:AS} {l1 l2:List Pt} {p:Pt} {last code:Int} (B7:Int) (B4:Int) (B8:BL) (D9:BL) (p5:Bool) (n9:Bool) (p7:BL) (j9:Int) (p6:Option BL) (p8:Nat) (I9:Option (List Change)) (A9:Int) (r8:BL) (u7:BL) (F5:Int) (M2:BL) (W0:Int) (V8:Int) (F8:Option BL) (w:StAt h s sp (l1++p::l2) last code) (hn:(l1++p::l2).length < 1000) (hi:idx (fun q=>b0U ⟨r8,u7⟩ F5 q.t) (l1++p::l2) = l1.length)
  (os:K4 p.t.span = true) (ok:TblOk p.t.rows) (okc:CchOk p.t.cache) :
  ∃ h',W K 40 [.one (.ptr s 0 0),.agg [ii B7,ii B4,.str B8,.str D9,.bool p5,.bool n9,.str p7,ii j9,bs p6,.flt p8,sl 6 l8 I9,ii A9,.str r8,.str u7,ii F5,.str M2,ii W0,ii V8,bs F8]] h = some (.ret (.agg (c6 (stA (a0E p.t.span p.t.gen p.t.rows p.t.cache)))) h') /\
   StAt h' s sp (l1++⟨p.d,{ p.t with fr:=true },p.fp⟩::l2) last code/\Fp h h' (fpS s sp (l1++p::l2)) (fpS s sp (l1++⟨p.d,{ p.t with fr:=true },p.fp⟩::l2)):=by
 obtain ⟨a1,a2,a3⟩:=w.at
 obtain ⟨pr,pc,qr,qc,t1,t2,t3,t4,t5⟩:=a1
 have hnd:=a2
 rw [t5] at hnd
 simp only [List.nodup_cons,oqf,oqe,Option.mem_toList,not_or] at hnd
 obtain ⟨⟨x1,x2,x3,x4⟩,⟨x5,x6,x7⟩,⟨x8,x9⟩,x10⟩:=hnd
 obtain ⟨B0,hB0⟩:∃ B:Blk,B = ⟨0,[19],true,[ii B7,ii B4,.str B8,.str D9,.bool p5,.bool n9,.str p7,ii j9,bs p6,.flt p8,sl 6 l8 I9,ii A9,.str r8,.str u7,ii F5,.str M2,ii W0,ii V8,bs F8]⟩:=⟨_,rfl⟩
 have w2:=(w.new B0).new R9
 have e1:=p0i w2 hn ⟨r8,u7⟩ F5
 rw [hi] at e1
 simp only at e1
 obtain ⟨h3,hh3⟩:∃ h3,((h.new B0).new R9).set p.d (Y0 p.t.span p.t.gen true (.ptr pr 0 0) (.ptr pc 0 0)) = h3:=⟨_,rfl⟩
 have n3:h3.next = h.next + 1 + 1:=by rw [<- hh3];simp
 have k3:∀ b,b < h.next->b ≠ p.d->h3.f b = h.f b:=fun b hb hbd=>by rw [<- hh3,l0,if_neg hbd,p0 (by simp;omega),p0 (by omega)]
 have d3:h3.f p.d = some (Y0 p.t.span p.t.gen true (.ptr pr 0 0) (.ptr pc 0 0)):=by rw [<- hh3];simp
 have t3':Bx (h3.new ⟨0,[1],true,[.nilslc]⟩) pr 2 g9 p.t.rows qr:=(t3.keep (h':=h3) (by omega) (k3 _ t3.1 (Ne.symm x1)) fun b hb=>k3 b (t3.lt hb) (fun e=>x3 (by rw [<- e];exact hb))).new _
 have t4':Bx (h3.new ⟨0,[1],true,[.nilslc]⟩) pc 3 J7 p.t.cache qc:=(t4.keep (h':=h3) (by omega) (k3 _ t4.1 (Ne.symm x2)) fun b hb=>k3 b (t4.lt hb) (fun e=>x4 (by rw [<- e];exact hb))).new _
 have hw0:Wr (h3.new ⟨0,[1],true,[.nilslc]⟩) h3.next none []:=⟨by simp,.nilslc,rfl,by simp,by simp,rfl⟩
 have e2:=q0a h3
 have d3n:(h3.new ⟨0,[1],true,[.nilslc]⟩).f p.d = some (Y0 p.t.span p.t.gen true (.ptr pr 0 0) (.ptr pc 0 0)):=by rw [p0 (by omega)];exact d3
 obtain ⟨h5,q5,e5,w5,o5⟩:=v0a hw0 os d3n (by simp;omega) (by omega) (by simp) t3' t4' ok okc
  ⟨by have:=t3.1;omega,by simp,fun e=>by have:=t3.lt e;omega,by simp⟩ ⟨by have:=t4.1;omega,by simp,fun e=>by have:=t4.lt e;omega,by simp⟩ (by simpa using p0V os ok okc)
 rw [oql] at w5
 obtain ⟨o,ho,e6⟩:=r0e w5 (p0V os ok okc)
 have hne:a0E p.t.span p.t.gen p.t.rows p.t.cache ≠ []:=fun e=>by
  have:=congrArg List.length e
  simp [a0E,L7,I1,c8] at this
 obtain rfl:=x0z ho hne
 have n5:=o5.next
 simp only [A6] at n5
 have k5:∀ b,b < h3.next->h5.f b = h3.f b:=fun b hb=>by rw [o5.keep b (by simp;omega) (by omega) (by simp),p0 (by omega)]
 obtain ⟨TB,hTB⟩:∃ TB,a0E p.t.span p.t.gen p.t.rows p.t.cache = TB:=⟨_,rfl⟩
 rw [hTB] at e6 |-
 have kk:∀ b,b < h.next->b ≠ p.d->(h5.set (h.next + 1) ⟨0,[11],true,c6 (stA TB)⟩).f b = h.f b:=fun b hb hbd=>by rw [l0,if_neg (by omega),k5 b (by omega),k3 b hb hbd]
 have hfp:∀ b ∈ p.fp,b < h.next:=fun b hb=>w.fp_lt b (by rw [b0y];simp [hb])
 have tb:TabAt (h5.set (h.next + 1) ⟨0,[11],true,c6 (stA TB)⟩) p.d { p.t with fr:=true } p.fp:=by
  refine ⟨pr,pc,qr,qc,by simp;omega, ?_,t3.keep (by simp;omega) (kk _ t3.1 (Ne.symm x1)) fun b hb=>kk b (t3.lt hb) (fun e=>x3 (by rw [<- e];exact hb)),t4.keep (by simp;omega) (kk _ t4.1 (Ne.symm x2)) fun b hb=>kk b (t4.lt hb) (fun e=>x4 (by rw [<- e];exact hb)),t5⟩
  rw [l0,if_neg (by omega),k5 _ (by omega)];exact d3
 obtain ⟨st,fp⟩:=w.put (h':=h5.set (h.next + 1) ⟨0,[11],true,c6 (stA TB)⟩) (p':=⟨p.d,{ p.t with fr:=true },p.fp⟩) rfl tb ⟨by simp;omega,fun b hb hbn=>kk b hb (fun e=>hbn (by rw [e,t5];simp)),fun b hb=>.inl hb⟩ a2
 refine ⟨_, ?_,st,fp⟩
 clear st fp tb kk
 obtain ⟨b,v,z,fx,ex,M,hspe,ar,hMb,hbl,hix,hM1,hM2,hset⟩:=q0Z w.spine
 have hsn:=w.lt
 have f0:h.f s = some ⟨0,[3],true,[sp,ii last,ii code]⟩:=w.blk
 have hsd:s ≠ p.d:=fun e=>(a3 p.d (by rw [t5];simp)).1 e.symm
 have hbd:b ≠ p.d:=fun e=>(a3 p.d (by rw [t5];simp)).2.1 (by rw [hspe,e];rfl)
 have m0:¬ s = h.next:=by omega
 have m1:¬ s = h.next + 1:=by omega
 have m2:¬ b = h.next:=by omega
 have m3:¬ b = h.next + 1:=by omega
 have m4:¬ p.d = h.next:=by omega
 have m5:¬ p.d = h.next + 1:=by omega
 have m6:¬ s = h3.next:=by omega
 have m7:¬ b = h3.next:=by omega
 have m8:¬ p.d = h3.next:=by omega
 have f3:h3.f s = some ⟨0,[3],true,[sp,ii last,ii code]⟩:=by rw [k3 s hsn hsd];exact f0
 have f3b:h3.f b = some ⟨v,M.length::ex,fx,M⟩:=by rw [k3 b hbl hbd];exact hMb
 have f5:h5.f (h.next + 1) = some R9:=by rw [k5 _ (by omega),<- hh3,l0,if_neg (by omega)];simp
 have d3':¬ (l1.length:Int) < 0:=by omega
 have d4':decide ((l1.length:Int) < 0) = false:=decide_eq_false d3'
 generalize l1.length = N at *
 simp only [Y0] at t2 hh3
 rw [hB0] at e1 hh3
 simp only [stA,c6,Wm.sl_none]
 refine zzD func40 rfl ?_
 simp only [f40]
 intro Q1 Y1
 repeat' (first
  | (replace Y1:=Y1;simp [-lay,L5,L6,O6,e1,f0,m0,m1,d3',hix,hMb,m2,m3,hM1,hM2,t2,m4,m5,hh3,e2,f3,m6,f3b,m7,e5,e6,f5])
  | refine Y1 _ _ _ ?_)
end Go.Proofs.YtiagcnfmgigllaaGreat
