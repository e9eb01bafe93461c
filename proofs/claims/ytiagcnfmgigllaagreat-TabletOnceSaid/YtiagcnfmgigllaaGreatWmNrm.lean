/- A part of a proof over the abstract machine. No conditions. -/
import Derived.Test.YtiagcnfmgigllaaGreatT43
import Derived.Test.YtiagcnfmgigllaaGreatT53
set_option linter.all false
namespace Wm
open Go Go.Ab
theorem g0W (v:Value):M9 (h0Q v) = h0Q (M9 v):=by
 unfold M9 h0Q
 by_cases h1:v.kind = 1
 ·simp [h1]
 ·by_cases h2:v.kind = 2
  ·simp [h2]
  ·simp [h1,h2]
theorem q0I (c:Column):W7 (X7 c) = X7 (W7 c):=by
 simp only [W7,X7,c0u,List.map_map]
 congr 2
 refine List.map_congr_left fun x _=>?_
 simp [Function.comp,a0e,a0r,g0W]
theorem h0W (o:Row):rowCopy (X0 o) = X0 (rowCopy o):=by
 unfold rowCopy
 rw [h0I]
 split
 ·simp only [X0,c0u,List.map_map]
  congr 1
  exact List.map_congr_left fun c _=>q0I c
 ·rfl
theorem w0e {α β:Type} (f:α->β) (p:β->Bool):∀ l:List α,((l.map f).takeWhile p).length = (l.takeWhile (fun x=>p (f x))).length
 | []=>rfl
 | a::l=>by
  simp only [List.map_cons,List.takeWhile_cons]
  split <;> simp [w0e f p l]
theorem i0R (l:List Column) (n:BL):S9 (l.map X7) n = S9 l n:=by unfold S9;rw [w0e];rfl
theorem n0t (l:List Column) (n:BL):a0f (l.map X7) n = a0f l n:=by
 unfold a0f
 rw [i0R,List.getElem?_map]
 cases l[S9 l n]? <;> rfl
def RR (r s:Row):Prop:=X0 r = X0 s
theorem RR.copy {r s:Row} (h:RR r s):RR (rowCopy r) (rowCopy s):=by
 unfold RR at *;rw [<- h0W,<- h0W,h]
theorem C0c {α:Type} {a b:List α} (h:nz a = nz b):a = b:=by have:=congrArg ls h;simpa using this
theorem RR.cols {r s:Row} (h:RR r s):(ls r).map X7 = (ls s).map X7:=C0c h
theorem RR.at {r s:Row} (h:RR r s) (n:BL):S9 (ls r) n = S9 (ls s) n/\a0f (ls r) n = a0f (ls s) n/\(ls r).length = (ls s).length:=by
 have hc:=h.cols
 refine ⟨by rw [<- i0R,hc,i0R],by rw [<- n0t,hc,n0t],by have:=congrArg List.length hc;simpa using this⟩
def TN (l:List Named):List Named:=l.map J6
structure AR (a b:Answer):Prop where
 rows:TN (ls a.rows) = TN (ls b.rows)
 rest:b = ⟨a.code,b.rows,a.span,a.group,a.gen,a.old,a.to,a.do_,a.at_,a.state⟩
end Wm
namespace Go.Proofs.YtiagcnfmgigllaaGreat
open Go Go.Ab Wm NumPlain Go.Proofs.Tryz
set_option maxRecDepth 10000
set_option maxHeartbeats 4000000
theorem n0H {h:H} {s:Nat} {last code:Int} (B7:Int) (B4:Int) (B8:BL) (D9:BL) (p5:Bool) (n9:Bool) (p7:BL) (j9:Int) (p6:Option BL) (p8:Nat) (I9:Option (List Change)) (A9:Int) (r8:BL) (u7:BL) (F5:Int) (M2:BL) (W0:Int) (V8:Int) (F8:Option BL) (w:StAt h s .nilslc [] last code) {gen:Int} {l:List Named} {ca:List Tld} (os:K4 ⟨r8,u7⟩ = true) (og:1 <= gen/\gen <= 1073741824) (ok:TblOk l) (okr:∀ x ∈ l,RowRd x.r) (okc:CchOk ca) (hin:∀ x ∈ l,G9 ⟨r8,u7⟩ x.name = true)
  (hst:F8 = some (a0E ⟨r8,u7⟩ gen l ca)) (hroom:(a0E ⟨r8,u7⟩ gen l ca).length <= 1099511627776) :
  ∃ h' sp' p,W K 80 [.one (.ptr s 0 0),.agg [ii B7,ii B4,.str B8,.str D9,.bool p5,.bool n9,.str p7,ii j9,bs p6,.flt p8,sl 6 l8 I9,ii A9,.str r8,.str u7,ii F5,.str M2,ii W0,ii V8,bs F8]] h = some (.ret (.one (ii 0)) h')/\p.t = ⟨⟨r8,u7⟩,F5,false,l.map J6,ca.map V1⟩/\StAt h' s sp' [p] last code/\Fp h h' (fpS s .nilslc []) (fpS s sp' [p]):=by
 obtain ⟨B0,hB0⟩:∃ B:Blk,B = ⟨0,[19],true,[ii B7,ii B4,.str B8,.str D9,.bool p5,.bool n9,.str p7,ii j9,bs p6,.flt p8,sl 6 l8 I9,ii A9,.str r8,.str u7,ii F5,.str M2,ii W0,ii V8,bs F8]⟩:=⟨_,rfl⟩
 obtain ⟨h2,hh2⟩:∃ h2,(h.new B0).new ⟨0,[1],true,[.nilptr]⟩ = h2:=⟨_,rfl⟩
 have n2:h2.next = h.next + 1 + 1:=by rw [<- hh2];simp
 have hsn:=w.lt
 have k2:∀ b,b < h.next->h2.f b = h.f b:=fun b hb=>by rw [<- hh2,p0 (by simp;omega),p0 (by omega)]
 obtain ⟨TB,hTB⟩:∃ TB,a0E ⟨r8,u7⟩ gen l ca = TB:=⟨_,rfl⟩
 have hbytes:L7 ⟨r8,u7⟩++(N8 gen++(c0i l++(b0M ca++[]))) = TB:=by rw [<- hTB];simp [a0E]
 rw [hTB] at hst hroom
 have hq:h2.next + 1 < (rdH h2 (some TB)).next:=by simp
 have hf:(rdH h2 (some TB)).f (h2.next + 1) = some (rdB (some (L7 ⟨r8,u7⟩++(N8 gen++(c0i l++(b0M ca++[])))))):=by rw [hbytes];simp [L8]
 obtain ⟨_,e3,h3,d,pr,pc,qr,qc,rfl,v1,v2,v4,v5,v6,v7⟩:=n0a (h:=rdH h2 (some TB)) (q:=h2.next + 1) (rest:=[]) os og ok okr okc hin hq hf (by rw [hbytes];exact hroom)
 have hnn:h2.next + 1 + 1 + 1 <= d/\d < h3.next:=by have:=v7.2 d (by simp);simp at this;omega
 have hpr:h2.next + 1 + 1 + 1 <= pr/\pr < h3.next:=by have:=v7.2 pr (by simp);simp at this;omega
 have hpc:h2.next + 1 + 1 + 1 <= pc/\pc < h3.next:=by have:=v7.2 pc (by simp);simp at this;omega
 have hqr:∀ x,qr = some x->h2.next + 1 + 1 + 1 <= x/\x < h3.next:=fun x hx=>by have:=v7.2 x (by simp [hx]);simp at this;omega
 have hqc:∀ x,qc = some x->h2.next + 1 + 1 + 1 <= x/\x < h3.next:=fun x hx=>by have:=v7.2 x (by simp [hx]);simp at this;omega
 have z3:h3.f (h.next + 1) = some ⟨0,[1],true,[.nilptr]⟩:=by
  rw [v2 _ (by simp;omega) (by omega)]
  rw [p0 (by simp;omega),p0 (by simp;omega),p0 (by omega),<- hh2];simp
 have hc:W K 129 (.one (.ptr (h2.next + 1) 0 0)::[AS.ptr (h.next + 1) 0 0].map AV.one) (rdH h2 (some TB)) = some (.ret (.tup []) (h3.set (h.next + 1) ⟨0,[1],true,[.ptr d 0 0]⟩)):=by
  simp only [List.map_cons,List.map_nil]
  generalize rdH h2 (some TB) = H0 at *
  refine zzD func129 rfl ?_
  simp only [f129]
  intro Q1 Y1
  repeat' (first
   | (replace Y1:=Y1;simp [e3,z3])
   | refine Y1 _ _ _ ?_)
 have hr:=k0g (h:=h2) (o:=some TB) (g:=129) (caps:=[.ptr (h.next + 1) 0 0]) hc (l:=some []) (by
   rw [l0,if_neg (by omega),v2 _ (by simp;omega) (by omega)];simp [L8])
  (by rw [l0,if_neg (by omega)];exact v1) (by rw [l0,if_neg (by omega),v2 _ (by simp) (by omega)];simp [L8])
 simp only [K6,oqc,decide_true] at hr
 obtain ⟨h4,hh4⟩:∃ h4,(h3.set (h.next + 1) ⟨0,[1],true,[.ptr d 0 0]⟩).set h2.next ⟨0,[1],true,[.bool true]⟩ = h4:=⟨_,rfl⟩
 rw [hh4] at hr
 have n4:h4.next = h3.next:=by rw [<- hh4];simp
 have k4:∀ b,b ≠ h.next + 1->b ≠ h2.next->h4.f b = h3.f b:=fun b h1 h2'=>by rw [<- hh4,l0,if_neg h2',l0,if_neg h1]
 have kk4:∀ b,b < h.next->h4.f b = h.f b:=fun b hb=>by
  rw [k4 b (by omega) (by omega),v2 b (by simp;omega) (by omega),p0 (by simp;omega),p0 (by simp;omega),p0 (by omega),k2 b hb]
 have d4:h4.f d = some (Y0 ⟨r8,u7⟩ gen false (.ptr pr 0 0) (.ptr pc 0 0)):=by rw [k4 d (by omega) (by omega)];exact v4
 have z4:h4.f (h.next + 1) = some ⟨0,[1],true,[.ptr d 0 0]⟩:=by rw [<- hh4,l0,if_neg (by omega)];simp
 have b4:h4.f h.next = some B0:=by
  rw [k4 _ (by omega) (by omega),v2 _ (by simp;omega) (by omega),p0 (by simp;omega),p0 (by simp;omega),p0 (by omega),<- hh2,p0 (by simp)];simp
 have b2:h2.f h.next = some B0:=by rw [<- hh2,p0 (by simp)];simp
 have z2:h2.f (h.next + 1) = some ⟨0,[1],true,[.nilptr]⟩:=by rw [<- hh2];simp
 have s4:h4.f s = some ⟨0,[3],true,[.nilslc,ii last,ii code]⟩:=by rw [kk4 s hsn];exact w.blk
 obtain ⟨fp,hfp⟩:∃ f,f = d::pr::pc::(qr.toList++qc.toList):=⟨_,rfl⟩
 obtain ⟨T,hT⟩:∃ T:TabD,T = ⟨⟨r8,u7⟩,F5,false,l.map J6,ca.map V1⟩:=⟨_,rfl⟩
 obtain ⟨h5,hh5⟩:∃ h5,h4.set d (Y0 ⟨r8,u7⟩ F5 false (.ptr pr 0 0) (.ptr pc 0 0)) = h5:=⟨_,rfl⟩
 have n5:h5.next = h3.next:=by rw [<- hh5];simp;exact n4
 obtain ⟨sp',h6,e6,⟨b6,v6',z6,hs6,ar6⟩,k6,k62,k63⟩:=P7 (P:=prog) (h:=h5.new ⟨0,[1],true,[.ptr d 0 0]⟩) (s:=.nilslc) (l:=[]) (t:=95) underlying95 (by simp) (by simp) Tryz.bytes98 (by omega) c0d (a:=.slc h5.next 0 0 1 1 none) (m:=[(⟨d,T,fp⟩:Pt)]) (.inl ⟨rfl,rfl⟩) rfl (by simp [C6,cat,sub,X2]) (by simp) (by simp [N3])
 simp only [oql,oqb,oqc,Nat.zero_add] at hs6 ar6
 simp only [A6] at k6 k62 k63
 have own6:∀ x,z7 sp' = some x->h5.next + 1 <= x:=fun x hx=>by
  rcases k63 x hx with e | e
  ·cases e
  ·exact e
 have kb6:∀ b,b < h5.next->h6.f b = h5.f b:=fun b hb=>by rw [k62 b (by omega) (by simp [z7]),p0 (by omega)]
 have hs6':∀ b,b < h5.next->b ≠ s->b ≠ d->(h6.set s ⟨0,[3],true,[sp',ii last,ii code]⟩).f b = h4.f b:=fun b hb hbs hbd=>by rw [l0,if_neg hbs,kb6 b hb,<- hh5,l0,if_neg hbd]
 have hnd:fp.Nodup:=by rw [hfp];exact v7.1
 have hd2:=hnd
 rw [hfp] at hd2
 simp only [List.nodup_cons,oqf,oqe,Option.mem_toList,not_or] at hd2
 obtain ⟨⟨x1,x2,x3,x4⟩,_⟩:=hd2
 have tb:TabAt (h6.set s ⟨0,[3],true,[sp',ii last,ii code]⟩) d T fp:=by
  rw [hT]
  refine ⟨pr,pc,qr,qc,by simp;omega, ?_,v5.keep (by simp;omega) ?_ fun b hb=>?_,v6.keep (by simp;omega) ?_ fun b hb=>?_,hfp⟩
  ·rw [l0,if_neg (by omega),kb6 _ (by omega),<- hh5];simp
  ·rw [hs6' _ (by omega) (by omega) (Ne.symm x1),k4 _ (by omega) (by omega)]
  ·have:=hqr b hb
   rw [hs6' _ (by omega) (by omega) (fun e=>x3 (by rw [<- e];exact hb)),k4 _ (by omega) (by omega)]
  ·rw [hs6' _ (by omega) (by omega) (Ne.symm x2),k4 _ (by omega) (by omega)]
  ·have:=hqc b hb
   rw [hs6' _ (by omega) (by omega) (fun e=>x4 (by rw [<- e];exact hb)),k4 _ (by omega) (by omega)]
 have lowF:∀ x ∈ fp,h.next <= x/\x < h5.next:=fun x hx=>by
  have:=v7.2 x (by rw [<- hfp];exact hx)
  simp at this;omega
 obtain ⟨st,g⟩:=StAt.of (h':=h6.set s ⟨0,[3],true,[sp',ii last,ii code]⟩) (sp':=sp') (ps':=[(⟨d,T,fp⟩:Pt)]) (last':=last) (code':=code) w (by simp;omega) (by simp)
  (.inr ⟨b6,v6',z6,hs6,ar6.keep (by simp) (by rw [l0,if_neg (fun e=>by have:=own6 b6 (by rw [hs6];rfl);omega)])⟩)
  (fun x hx=>by
   have:=own6 x hx
   right;exact ⟨by omega,fun hc=>by simp at hc;have:=lowF x hc;omega⟩)
  (fun q hq=>by simp at hq;subst hq;right;exact ⟨tb,fun x hx=>(lowF x hx).1⟩)
  (fun x hx hxs _=>by rw [hs6' x (by omega) hxs (by omega)];exact kk4 x hx) (by simpa using hnd)
 refine ⟨_,sp',⟨d,T,fp⟩, ?_,hT,st,g⟩
 have hne:=s0H r8 u7 r8 u7
 simp only [decide_true,Bool.and_self,Bool.not_true] at hne
 have m0:¬ s = h.next:=by omega
 have m1:¬ s = h.next + 1:=by omega
 have m2:¬ d = h.next:=by omega
 have m3:¬ d = h.next + 1:=by omega
 have m4:¬ h.next = d:=by omega
 have m5:¬ h.next + 1 = d:=by omega
 have m6:¬ s = d:=by omega
 have s5:h5.f s = some ⟨0,[3],true,[.nilslc,ii last,ii code]⟩:=by rw [<- hh5,l0,if_neg (by omega)];exact s4
 have z5:h5.f (h.next + 1) = some ⟨0,[1],true,[.ptr d 0 0]⟩:=by rw [<- hh5,l0,if_neg (by omega)];exact z4
 have s6:h6.f s = some ⟨0,[3],true,[.nilslc,ii last,ii code]⟩:=by rw [kb6 _ (by omega)];exact s5
 simp only [Y0] at d4 hh5
 subst hst
 rw [hB0] at hh2 b4 b2
 suffices key:∃ r,W K 80 [.one (.ptr s 0 0),.agg [ii B7,ii B4,.str B8,.str D9,.bool p5,.bool n9,.str p7,ii j9,bs p6,.flt p8,sl 6 l8 I9,ii A9,.str r8,.str u7,ii F5,.str M2,ii W0,ii V8,bs (some TB)]] h = some r/\r = .ret (.one (ii 0)) (h6.set s ⟨0,[3],true,[sp',ii last,ii code]⟩) by
  obtain ⟨r,e,rfl⟩:=key
  exact e
 refine zzE func80 rfl ?_
 simp only [f80]
 intro Q2 Y2
 repeat' (first
  | (replace Y2:=Y2;simp [-lay,hh2,b2,hr,b4,z4,d4,hne,s4])
  | refine Y2 _ _ _ ?_
  | (first | refine dF (id:=2) r0M [] ?_ | refine dF (id:=8) zl8 [] ?_ | refine dF (id:=9) k0j [] ?_))
 refine S0 hp 0 (fun i fr hh=>hh = h4/\∃ j:Nat->AV,fr = ((.one (.ptr s 0 0))::j 1::j 2::(.one (.ptr h.next 0 0))::j 4::(.one (.ptr (h.next + 1) 0 0))::(.one .nilslc)::j 7::j 8::j 9::j 10::j 11::j 12::j 13::j 14::j 15::j 16::j 17::j 18::j 19::j 20::j 21::j 22::j 23::j 24::j 25::j 26::(.one .nilslc)::(.one (ii 0))::(.one (ii 0))::j 30::j 31::j 32::j 33::j 34::j 35::j 36::j 37::j 38::j 39::j 40::j 41::j 42::j 43::j 44::j 45::j 46::j 47::j 48::j 49::j 50::j 51::j 52::j 53::j 54::j 55::j 56::j 57::j 58::j 59::j 60::j 61::j 62::j 63::j 64::j 65::j 66::j 67::j 68::j 69::j 70::j 71::j 72::j 73::j 74::j 75::j 76::j 77::j 78::[])) ?_ ?_ _ _ ?_
 rotate_left 2
 ·exact ⟨rfl,y0 (by simp)⟩
 ·intro i fr hh hi;omega
 ·rintro fr hh ⟨rfl,j,rfl⟩
  first | (refine s9 ?_;intro Q3 Y3) | have Y3:=oqk
  repeat' (first
   | (replace Y3:=Y3;simp [-lay,L5,L6,O6,b4,z4,d4,hh5,z5,e6,s6])
   | (refine Y3 _ _ _ ?_;clear Y3 Q3;first | simp only [] | simp [-lay,L5,L6,O6,b4,z4,d4,m0,m1,m2,m3,m4,m5,m6,hh5,s5,z5,e6,s6] | skip)
   | (refine F6 (by assumption) ?_;(try clear Y3);first | simp only [] | simp [-lay] | skip)
   | ((fail_if_success replace Y3:=Y3);(first | refine s9 ?_ | refine A1 ?_ | refine A4 ?_);intro Q3 Y3)
   | (first | refine dF (id:=2) r0M [] ?_ | refine dF (id:=8) zl8 [] ?_ | refine dF (id:=9) k0j [] ?_))
theorem z0Q {l:List Named} (ok:TblOk l) {sp:Span} (os:K4 sp = true) {o:Wm.Op} (oo:h0X o = true) (hi:G9 sp o.row = true):(b0I (opT sp l o).1).length <= 20000:=by
 have h1:=(s0e ok os oo hi).1
 have h2:=(r0m ok os oo hi).1
 have h3:f0w (opT sp l o).1.state = 0:=by
  unfold opT
  split
  ·split <;> simp [noA]
  split
  ·simp [noA]
  ·simp
 simp only [d0G,K4,oqd,oqj] at h2
 obtain ⟨_,_,_,_,⟨⟨o1,o2⟩,_⟩,o3,o4⟩:=h2
 simp only [f0w] at h3
 simp only [b0I,L7,I1,N8,c8,oqa,oqb];omega
def Dj (F G:List Nat):Prop:=∀ x ∈ F,x ∉ G
theorem Dj.symm {F G:List Nat} (d:Dj F G):Dj G F:=fun x hx hc=>d x hc hx
theorem Dj.step {F F' G:List Nat} {h h':H} (d:Dj F G) (g:Fp h h' F F') (lt:∀ x ∈ G,x < h.next):Dj F' G:=fun x hx hc=>by
 rcases g.own x hx with e | e
 ·exact d x e hc
 ·have:=lt x hc;omega
structure Two (p q:Pt) (n:Int):Prop where
 one:One p
 two:One q
 rel:TN p.t.rows = TN q.t.rows
 lt:∀ x ∈ p.t.cache,x.seq < n
 lt2:∀ x ∈ q.t.cache,x.seq < n
structure Bk (q:Pt) (n:Nat):Prop where
 gen:q.t.gen = 1
 num:B0Q q.t.rows
 len:q.t.cache.length <= n
 small:∀ x ∈ q.t.cache,(ls x.b).length <= 20000
theorem w0R {h:H} {s:Nat} {sp:AS} {l1 l2:List Pt} {p:Pt} {last code:Int} (B7:Int) (B4:Int) (B8:BL) (D9:BL) (p5:Bool) (n9:Bool) (p7:BL) (j9:Int) (p6:Option BL) (p8:Nat) (I9:Option (List Change)) (A9:Int) (r8:BL) (u7:BL) (F5:Int) (M2:BL) (W0:Int) (V8:Int) (F8:Option BL) (w:StAt h s sp (l1++p::l2) last code) (hn:(l1++p::l2).length < 1000) (hi:idx (fun q=>b0U ⟨r8,u7⟩ F5 q.t) (l1++p::l2) = l1.length) (hfr:p.t.fr = true) :
  ∃ h',W K 41 [.one (.ptr s 0 0),.agg [ii B7,ii B4,.str B8,.str D9,.bool p5,.bool n9,.str p7,ii j9,bs p6,.flt p8,sl 6 l8 I9,ii A9,.str r8,.str u7,ii F5,.str M2,ii W0,ii V8,bs F8]] h = some (.ret (.agg (c6 (noA 0))) h')/\h.next <= h'.next/\∀ x,x < h.next->x ∉ fpS s sp (l1++p::l2)->h'.f x = h.f x:=by
 obtain ⟨a1,a2,a3⟩:=w.at
 obtain ⟨pr,pc,qr,qc,t1,t2,t3,t4,t5⟩:=a1
 obtain ⟨B0,hB0⟩:∃ B:Blk,B = ⟨0,[19],true,[ii B7,ii B4,.str B8,.str D9,.bool p5,.bool n9,.str p7,ii j9,bs p6,.flt p8,sl 6 l8 I9,ii A9,.str r8,.str u7,ii F5,.str M2,ii W0,ii V8,bs F8]⟩:=⟨_,rfl⟩
 have w2:=(w.new B0).new R9
 obtain ⟨h2,hh2⟩:∃ h2,(h.new B0).new R9 = h2:=⟨_,rfl⟩
 rw [hh2] at w2
 have n2:h2.next = h.next + 1 + 1:=by rw [<- hh2];simp
 have k2:∀ x,x < h.next->h2.f x = h.f x:=fun x hx=>by rw [<- hh2,p0 (by simp;omega),p0 (by omega)]
 have e1:=p0i w2 hn ⟨r8,u7⟩ F5
 rw [hi] at e1
 simp only at e1
 obtain ⟨b,v,z,fx,ex,M,hspe,ar,hMb,hbl,hix,hM1,hM2,hset⟩:=q0Z w2.spine
 have hbh:b < h.next:=w.spine.lt (b:=b) (by rw [hspe];rfl)
 have hbs:b ≠ s:=fun e=>by
  have:=w.nd
  rw [fpS,hspe] at this
  simp [z7,e] at this
 have hJl:l1.length < (l1++p::l2).length:=by simp
 obtain ⟨_,e3,hr3⟩:=t0B ar l1.length hJl (by omega)
 obtain ⟨_,h3,rfl,rfl,_,n3,f3⟩:=hr3.ret
 obtain ⟨sp',hsp'⟩:∃ x,x = AS.slc b v 0 ((l1++p::l2).length - 1) 1 none:=⟨_,rfl⟩
 rw [<- hsp'] at e3
 have e3':W K 79 [.one sp,.one (ii l1.length),.one (ii (l1.length + 1))] h2 = some (.ret (.one sp') h3):=by rw [hspe];exact e3
 clear e3
 have hsn:=w.lt
 have f0:h2.f s = some ⟨0,[3],true,[sp,ii last,ii code]⟩:=w2.blk
 have f2a:h2.f h.next = some B0:=by rw [<- hh2,p0 (by simp)];simp
 have f2b:h2.f (h.next + 1) = some R9:=by rw [<- hh2];simp
 have d2:h2.f p.d = some (Y0 p.t.span p.t.gen true (.ptr pr 0 0) (.ptr pc 0 0)):=by rw [k2 _ t1,t2,hfr]
 have f3s:h3.f s = some ⟨0,[3],true,[sp,ii last,ii code]⟩:=by rw [f3 s (Ne.symm hbs)];exact f0
 have f3b:h3.f (h.next + 1) = some R9:=by rw [f3 _ (by omega)];exact f2b
 have m0:¬ s = h.next:=by omega
 have m1:¬ s = h.next + 1:=by omega
 have m2:¬ h.next + 1 = s:=by omega
 have d3':¬ (l1.length:Int) < 0:=by omega
 have d4':decide ((l1.length:Int) < 0) = false:=decide_eq_false d3'
 have hwJ:IntKind.i64.wrap ((l1.length:Int) + 1) = (l1.length:Int) + 1:=J1 (by simp at hn;omega)
 have hno:=q0D 0
 have hA0:c6 (noA 0) = [ii 0,.nilslc,.str [],.str [],ii 0,ii 0,ii 0,ii 0,ii 0,.str [],.nilslc]:=rfl
 refine ⟨(h3.set s ⟨0,[3],true,[sp',ii last,ii code]⟩).set (h.next + 1) ⟨0,[11],true,c6 (noA 0)⟩, ?_,by simp;omega,fun x hx hxn=>?_⟩
 ·rw [hA0] at hno |-
  generalize l1.length = N at *
  simp only [Y0] at d2
  rw [hB0] at hh2 f2a
  refine zzD func41 rfl ?_
  simp only [f41]
  intro Q1 Y1
  repeat' (first
   | (replace Y1:=Y1;simp [-lay,L5,L6,hh2,e1,f2a,f0,m2,d3',hix,hMb,hM1,hM2,d2,hwJ,e3',f3s,f3b,hno])
   | refine Y1 _ _ _ ?_)
 ·rw [l0,if_neg (by omega),l0,if_neg (fun e=>hxn (by rw [e];simp [fpS])),f3 x (fun e=>hxn (by rw [e,fpS,hspe];simp [z7])),k2 x hx]
theorem u0b {h:H} {s:Nat} {sp:AS} {l1 l2:List Pt} {p:Pt} {last code:Int} (w:StAt h s sp (l1++p::l2) last code) (hn:(l1++p::l2).length < 1000) (lo hi:BL) (g:Int) (hx:idx (fun q=>b0U ⟨lo,hi⟩ g q.t) (l1++p::l2) = l1.length) (hfr:p.t.fr = true) (hok:K4 ⟨lo,hi⟩ = true) (hg:1 <= g/\g <= 1073741824) (client seq:Int) :
  ∃ h',W K 12 [.one (.ptr s 0 0),.one (ii client),.one (ii seq),.agg (g0V 4 g lo hi [])] h = some (.ret (.agg (c6 (noA 0))) h')/\h.next <= h'.next/\∀ x,x < h.next->x ∉ fpS s sp (l1++p::l2)->h'.f x = h.f x:=by
 obtain ⟨h3,e3,n3,k3⟩:=w0R 4 0 [] [] false false [] 0 none 0 none 0 lo hi g [] 0 0 none ((w.new ⟨0,[19],true,g0V 4 g lo hi []⟩).new R9) hn hx hfr
 simp only [A6] at n3 k3
 have hz:h3.f (h.next + 1) = some R9:=by
  rw [k3 _ (by omega) (fun e=>by have:=w.fp_lt _ e;omega)];simp
 have e:=C0w client seq 4 0 [] [] false false [] 0 none 0 none 0 lo hi g [] 0 0 none rfl (by simp [c0j,hok,f0q,hg]) (by simp) e3 hz
 exact ⟨_,e,by simp;omega,fun x hx hxn=>by rw [l0,if_neg (by omega),k3 x (by omega) hxn,p0 (by simp;omega),p0 (by omega)]⟩
def svB (t:TabD):BL:=(if t.fr then 1 else 0)::a0E t.span t.gen t.rows t.cache
def d0z (ts:List TabD) (last code:Int):BL:=N8 last++(u8 code::u8 ts.length::ts.flatMap svB)
structure WrOk (t:TabD):Prop where
 sp:K4 t.span = true
 rows:TblOk t.rows
 cache:CchOk t.cache
theorem s0w {t:TabD} (o:WrOk t):(svB t).length <= 268500000:=by
 have h1:=i0C (gen:=t.gen) o.sp o.rows o.cache (m:=1048576) fun x hx=>(a0B (o.cache.ok x hx)).2.2.2.2
 have h2:=o.cache.len
 have:(9 + 1048576) * t.cache.length <= (9 + 1048576) * 256:=Nat.mul_le_mul_left _ h2
 simp only [svB,oqb];omega
theorem j0H:∀ {ts:List TabD},(∀ t ∈ ts,WrOk t)->(ts.flatMap svB).length <= 268500000 * ts.length
 | [],_=>by simp
 | t::ts,h=>by
  have h1:=s0w (h t (by simp))
  have h2:=j0H (ts:=ts) fun x hx=>h x (by simp [hx])
  simp only [List.flatMap_cons,oqa,oqb];omega
theorem B0I {h:H} {s:Nat} {sp:AS} {ps:List Pt} {last code:Int} (w:StAt h s sp ps last code) (hn:ps.length <= 16) (ok:∀ p ∈ ps,WrOk p.t) :
  W K 28 [.one (.ptr s 0 0)] h = some (.ret (.one (bs (some (d0z (ps.map (·.t)) last code)))) h):=by
 have hwl:=w.fp_lt
 have hsn:=w.lt
 obtain ⟨h1,hh1⟩:∃ h1,h.new ⟨0,[1],true,[.nilslc]⟩ = h1:=⟨_,rfl⟩
 have n1:h1.next = h.next + 1:=by rw [<- hh1];simp
 have e1:=q0a h
 rw [hh1] at e1
 have w1:Wr h1 h.next none []:=by rw [<- hh1];exact ⟨by simp,.nilslc,rfl,by simp,by simp,rfl⟩
 obtain ⟨h2,q2,e2,w2,o2⟩:=j0a last h1 h.next none _ w1 (by simp [N8,c8])
 obtain ⟨h3,q3,e3,w3,o3⟩:=a0V (u8 code) h2 h.next q2 _ w2 (by simp [N8,c8])
 obtain ⟨h4,q4,e4,w4,o4⟩:=a0V (u8 ps.length) h3 h.next q3 _ w3 (by simp [N8,c8])
 have o24:=(o2.trans o3).trans o4
 have k1:∀ b,b < h.next->h1.f b = h.f b:=fun b hb=>by rw [<- hh1,p0 (by omega)]
 have kk:∀ {hh:H} {q:Option Nat},Only h1 hh h.next none q->Kept h hh:=fun o=>⟨by have:=o.next;omega,fun b hb=>by rw [o.keep b (by omega) (by omega) (by simp)];exact k1 b hb⟩
 have f1:h1.f s = some ⟨0,[3],true,[sp,ii last,ii code]⟩:=by rw [k1 s hsn];exact w.blk
 have f2:h2.f s = some ⟨0,[3],true,[sp,ii last,ii code]⟩:=by rw [o2.keep s (by omega) (by omega) (by simp),f1]
 have f3:h3.f s = some ⟨0,[3],true,[sp,ii last,ii code]⟩:=by rw [(o2.trans o3).keep s (by omega) (by omega) (by simp),f1]
 have f4:h4.f s = some ⟨0,[3],true,[sp,ii last,ii code]⟩:=by rw [o24.keep s (by omega) (by omega) (by simp),f1]
 have hla:=(c0s w.spine).1
 obtain ⟨P0,hP0⟩:∃ P:BL,[]++N8 last++[u8 code]++[u8 ps.length] = P:=⟨_,rfl⟩
 rw [hP0] at w4
 have hPl:P0.length = 6:=by rw [<- hP0];simp [N8,c8]
 have hS:d0z (ps.map (·.t)) last code = P0++(ps.map (·.t)).flatMap svB:=by rw [<- hP0];simp [d0z]
 have hlen:=j0H (ts:=ps.map (·.t)) (fun t ht=>by obtain ⟨p,hp,rfl⟩:=List.mem_map.1 ht;exact ok p hp)
 rw [oqi] at hlen
 rw [hS]
 obtain ⟨TB,hTB⟩:∃ TB,P0++(ps.map (·.t)).flatMap svB = TB:=⟨_,rfl⟩
 rw [hTB]
 suffices key:∃ r,W K 28 [.one (.ptr s 0 0)] h = some r/\r = .ret (.one (bs (some TB))) h by
  obtain ⟨r,e,rfl⟩:=key
  exact e
 refine zzI func28 rfl ?_
 simp only [f28]
 intro Q1 Y1
 repeat' (first
  | (replace Y1:=Y1;simp [e1,f1,B6,b0h,e2,f2,e3,f3,hla,e4,f4])
  | refine Y1 _ _ _ ?_)
 refine I8 hp ps (fun a r fr hh=>(∃ q,Wr hh h.next q (P0++(a.map (·.t)).flatMap svB)/\Only h1 hh h.next none q)/\∃ j:Nat->AV,fr = (j 0::j 1::j 2::(.one (.ptr h.next 0 0))::j 4::j 5::j 6::j 7::j 8::j 9::j 10::j 11::j 12::j 13::j 14::j 15::j 16::j 17::j 18::j 19::j 20::j 21::j 22::j 23::j 24::j 25::j 26::j 27::j 28::j 29::j 30::j 31::j 32::(.one sp)::(.one (ii ps.length))::(.one (ii a.length))::j 36::j 37::j 38::j 39::j 40::j 41::j 42::j 43::j 44::j 45::j 46::j 47::j 48::j 49::j 50::j 51::[])) ?_ ?_ _ _ ?_
 rotate_left 2
 ·exact ⟨⟨q4,by simpa using w4,o24⟩,y0 (by simp)⟩
 ·rintro a x r fr hh hll ⟨⟨q,wq,oq⟩,j,rfl⟩
  have hil:a.length < ps.length:=by rw [hll];simp
  have hxe:ps[a.length] = x:=by simp only [hll];simp
  have hxm:x ∈ ps:=by rw [hll];simp
  have wh:=w.kept (kk oq)
  obtain ⟨hix,hrd⟩:=(c0s wh.spine).2 a.length hil
  rw [hxe] at hrd
  have ox:=ok x hxm
  have wx:StAt hh s sp (a++x::r) last code:=by rw [<- hll];exact wh
  obtain ⟨a1,a2,a3⟩:=wx.at
  obtain ⟨pr,pc,qr,qc,t1,t2,t3,t4,t5⟩:=a1
  have hfl:∀ b ∈ x.fp,b < h.next:=fun b hb=>hwl b (by rw [hll,b0y];simp [hb])
  have hxd:=hfl x.d (by rw [t5];simp)
  have hpr:=hfl pr (by rw [t5];simp)
  have hpc:=hfl pc (by rw [t5];simp)
  have hqr:∀ b,qr = some b->b < h.next:=fun b hb=>hfl b (by rw [t5];simp [hb])
  have hqc:∀ b,qc = some b->b < h.next:=fun b hb=>hfl b (by rw [t5];simp [hb])
  have qn:∀ {b:Nat} {hh:H} {q:Option Nat},Only h1 hh h.next none q->b < h.next->q ≠ some b:=fun o hb e=>by
   rcases o.own with h | ⟨y,h,hy⟩
   ·rw [h] at e;cases e
   ·rw [h] at e;cases e;omega
  have hsl:=j0H (ts:=a.map (·.t)) (fun t ht=>by obtain ⟨p,hp,rfl⟩:=List.mem_map.1 ht;exact ok p (by rw [hll];simp [hp]))
  rw [oqi] at hsl
  have hxl:=s0w ox
  simp only [svB,oqb] at hxl
  have ha16:268500000 * a.length <= 268500000 * 16:=Nat.mul_le_mul_left _ (by omega)
  obtain ⟨L,hL⟩:∃ L,P0++(a.map (·.t)).flatMap svB = L:=⟨_,rfl⟩
  have hLl:L.length <= 6 + 268500000 * 16:=by rw [<- hL,oqa];omega
  have hL2:P0++((a++[x]).map (·.t)).flatMap svB = L++[if x.t.fr then 1 else 0]++a0E x.t.span x.t.gen x.t.rows x.t.cache:=by rw [<- hL];simp [svB]
  rw [hL] at wq
  obtain ⟨h5,q5,e5,w5,o5⟩:=a0V (if x.t.fr then 1 else 0) hh h.next q _ wq (by simp;omega)
  have o15:=oq.trans o5
  have d5:h5.f x.d = some (Y0 x.t.span x.t.gen x.t.fr (.ptr pr 0 0) (.ptr pc 0 0)):=by rw [o5.keep x.d t1 (by omega) (qn oq hxd)];exact t2
  have b5:Bx h5 pr 2 g9 x.t.rows qr:=t3.keep o5.next (o5.keep pr t3.1 (by omega) (qn oq hpr)) fun b hb=>o5.keep b (t3.lt hb) (by have:=hqr b hb;omega) (qn oq (hqr b hb))
  have c5:Bx h5 pc 3 J7 x.t.cache qc:=t4.keep o5.next (o5.keep pc t4.1 (by omega) (qn oq hpc)) fun b hb=>o5.keep b (t4.lt hb) (by have:=hqc b hb;omega) (qn oq (hqc b hb))
  obtain ⟨h6,q6,e6,w6,o6⟩:=v0a w5 ox.sp d5 (by have:=o15.next;omega) (by omega) (qn o15 hxd) b5 c5 ox.rows ox.cache
   ⟨by omega,qn o15 hpr,fun e=>by have:=hqr _ e;omega,fun b hb=>qn o15 (hqr b hb)⟩ ⟨by omega,qn o15 hpc,fun e=>by have:=hqc _ e;omega,fun b hb=>qn o15 (hqc b hb)⟩ (by simp;omega)
  rw [<- hL2] at w6
  have hw:IntKind.i64.wrap ((a.length:Int) + 1) = (a.length:Int) + 1:=J1 (by omega)
  simp only [Y0] at t2
  cases hfr:x.t.fr
  ·rw [hfr] at t2 e5
   simp only [oqF,if_false] at e5
   rw [show F7 0 = .int .u8 0 from rfl] at e5
   first | (refine s9 ?_;intro Q2 Y2) | have Y2:=oqk
   repeat' (first
    | (replace Y2:=Y2;simp [hix,hrd,hil,t2,e5,e6,hw])
    | (refine Y2 _ _ _ ?_;clear Y2 Q2;first | simp only [] | simp [hix,hrd,hil,t2,e5,e6,hw] | skip)
    | (refine F6 (by assumption) ?_;(try clear Y2);first | simp only [] | simp [hix,hrd,hil,t2,e5,e6,hw] | skip)
    | ((fail_if_success replace Y2:=Y2);(first | refine s9 ?_ | refine A1 ?_ | refine A4 ?_);intro Q2 Y2))
   exact ⟨⟨q6,w6,o15.trans o6⟩,y0 (by simp)⟩
  ·rw [hfr] at t2 e5
   simp only [if_true] at e5
   rw [show F7 1 = .int .u8 1 from rfl] at e5
   first | (refine s9 ?_;intro Q3 Y3) | have Y3:=oqk
   repeat' (first
    | (replace Y3:=Y3;simp [hix,hrd,hil,t2,e5,e6,hw])
    | (refine Y3 _ _ _ ?_;clear Y3 Q3;first | simp only [] | simp [hix,hrd,hil,t2,e5,e6,hw] | skip)
    | (refine F6 (by assumption) ?_;(try clear Y3);first | simp only [] | simp [hix,hrd,hil,t2,e5,e6,hw] | skip)
    | ((fail_if_success replace Y3:=Y3);(first | refine s9 ?_ | refine A1 ?_ | refine A4 ?_);intro Q3 Y3))
   exact ⟨⟨q6,w6,o15.trans o6⟩,y0 (by simp)⟩
 ·rintro fr hh ⟨⟨q,wq,oq⟩,j,rfl⟩
  obtain ⟨o,ho,e7⟩:=r0e wq (by rw [oqa];have:268500000 * ps.length <= 268500000 * 16:=Nat.mul_le_mul_left _ hn;omega)
  have hne:P0++(ps.map (·.t)).flatMap svB ≠ []:=fun e=>by
   have:=congrArg List.length e
   simp at this;rw [this.1] at hPl;simp at hPl
  obtain rfl:=x0z ho hne
  have kh:=kk oq
  rw [hTB] at e7
  first | (refine s9 ?_;intro Q4 Y4) | have Y4:=oqk
  repeat' (first
   | (replace Y4:=Y4;simp [e7])
   | (refine Y4 _ _ _ ?_;clear Y4 Q4;first | simp only [] | simp [e7] | skip)
   | (refine F6 (by assumption) ?_;(try clear Y4);first | simp only [] | simp [e7] | skip)
   | ((fail_if_success replace Y4:=Y4);(first | refine s9 ?_ | refine A1 ?_ | refine A4 ?_);intro Q4 Y4))
  exact h0D kh (l0x (f0T (some TB))) rfl
end Go.Proofs.YtiagcnfmgigllaaGreat
