/- A part of a proof over the abstract machine. No conditions. -/
import Derived.Test.YtiagcnfmgigllaaGreatWmNrm
set_option linter.all false
namespace Go.Proofs.YtiagcnfmgigllaaGreat
open Go Go.Ab Wm NumPlain Go.Proofs.Tryz
set_option maxRecDepth 10000
set_option maxHeartbeats 4000000
theorem q0J {h:H} {s:AS} {l:List Span} (hl:l ≠ []) (a:Sl h 2 I5 s l):b0s h [.one s] = some [.one (sl 2 I5 (some l))]:=by
 rcases a with ⟨_,e⟩ | ⟨b,v,z,rfl,ar⟩
 ·exact absurd e hl
 have hr:=V0 (l:=[]) a0w ar
 simp only [oqc,Nat.zero_mul] at hr
 unfold b0s
 rw [if_neg (by simp [M5,c7])]
 have hm:(cat I5 l).mapM (N5 h 63) = some (cat I5 l):=f0m (n:=62) (d0e (st:=false) l fun x _=>n0k x) (fun a ha=>by
  obtain ⟨x,_,hx⟩:=List.mem_flatMap.1 ha
  simp only [I5,oqf,List.not_mem_nil,or_false] at hx
  rcases hx with rfl | rfl <;> simp)
 simp only [List.mapM_cons,List.mapM_nil,d0b,N5,hr,hm,oqE,oqS,oqP,sl]
structure RdOk (t:TabD):Prop where
 wr:WrOk t
 gen:1 <= t.gen/\t.gen <= 1073741824
 rd:∀ x ∈ t.rows,RowRd x.r
 inn:∀ x ∈ t.rows,G9 t.span x.name = true
def d0k (t:TabD):TabD:=⟨t.span,t.gen,t.fr,t.rows.map J6,t.cache.map V1⟩
theorem StAt.more {h h':H} {s:Nat} {sp sp':AS} {ps:List Pt} {p:Pt} {last code:Int} (w:StAt h s sp ps last code) (hn:h.next <= h'.next) (hblk:h'.f s = some ⟨0,[3],true,[sp',ii last,ii code]⟩) (hsp:Sl h' 1 X2 sp' (ps++[p])) {n:Nat} (hnn:h.next <= n)
  (Yb:∀ b,z7 sp' = some b->z7 sp = some b \/ n <= b) (ht:TabAt h' p.d p.t p.fp) (hnew:∀ b ∈ p.fp,h.next <= b/\b < n) (hnd:p.fp.Nodup) (hkeep:∀ b ∈ ps.flatMap (·.fp),h'.f b = h.f b):StAt h' s sp' (ps++[p]) last code:=by
 have wl:=w.fp_lt
 have wn:=w.nd
 simp only [fpS,List.nodup_cons,oqe,not_or] at wn
 obtain ⟨⟨n1,n2⟩,n3⟩:=wn
 rw [List.nodup_append] at n3
 obtain ⟨n4,n5,n6⟩:=n3
 have hF:∀ b ∈ ps.flatMap (·.fp),b < h.next:=fun b hb=>wl b (by simp only [fpS,oqf,oqe];exact .inr (.inr hb))
 have hsn:=w.lt
 refine ⟨by omega,hblk,hsp,fun q hq=>?_, ?_⟩
 ·rcases oqe.1 hq with hq | hq
  ·exact (w.tabs q hq).keep hn fun b hb=>hkeep b (List.mem_flatMap.2 ⟨q,hq,hb⟩)
  ·rw [List.mem_singleton.1 hq];exact ht
 ·simp only [fpS,List.flatMap_append,List.flatMap_cons,List.flatMap_nil,List.append_nil,List.nodup_cons,oqe,not_or]
  have hs2:∀ b,z7 sp' = some b->b ≠ s:=fun b hb e=>by
   rcases Yb b hb with h | h
   ·exact n1 (by rw [h];simp [e])
   ·omega
  refine ⟨⟨fun hc=>hs2 s (by simpa using hc) rfl,n2,fun hc=>by have:=hnew s hc;omega⟩, ?_⟩
  rw [List.nodup_append,List.nodup_append]
  refine ⟨by cases z7 sp' <;> simp,⟨n5,hnd,fun a ha b hb e=>by have:=hF a ha;have:=hnew b hb;omega⟩,fun a ha b hb e=>?_⟩
  subst e
  have ha':z7 sp' = some a:=by simpa using ha
  rcases oqe.1 hb with hb | hb
  ·rcases Yb a ha' with h | h
   ·exact n6 a (by rw [h];simp) a hb rfl
   ·have:=hF a hb;omega
  ·have h1:=hnew a hb
   rcases Yb a ha' with h | h
   ·have:=wl a (by simp [fpS,h]);omega
   ·omega
theorem y0F {h:H} {q:Nat} {ts:List TabD} {last code:Int} (hne:ts ≠ []) (ok:∀ t ∈ ts,RdOk t) (hg:∀ t ∈ ts,t.gen <= last) (hl:0 <= last/\last <= 1073741824) (hc:0 <= code/\code <= 255) (hn:ts.length <= 16) (hap:j0F (ts.map (·.span)) = true)
  (hs:∀ a y x b,ts = a++y::x::b->blt y.span.lo x.span.lo = true) (hq:q < h.next) (hf:h.f q = some (rdB (some (d0z ts last code)))) (hroom:(d0z ts last code).length <= 1099511627776) :
  ∃ r,W K 54 [.one (.ptr q 0 0)] h = some r/\∃ h' s sp ps,r = .ret (.one (.ptr s 0 0)) h'/\StAt h' s sp ps last code/\ps.map (·.t) = ts.map d0k/\h'.f q = some (rdB (some []))/\h.next <= h'.next/\(∀ b,b < h.next->b ≠ q->h'.f b = h.f b)/\∀ b ∈ fpS s sp ps,h.next <= b:=by
 obtain ⟨P,hP⟩:∃ P:CR->Prop,P = fun r=>∃ h' s sp ps,r = .ret (.one (.ptr s 0 0)) h'/\StAt h' s sp ps last code/\ps.map (·.t) = ts.map d0k/\h'.f q = some (rdB (some []))/\h.next <= h'.next/\(∀ b,b < h.next->b ≠ q->h'.f b = h.f b)/\∀ b ∈ fpS s sp ps,h.next <= b:=⟨_,rfl⟩
 suffices hh:∃ r,W K 54 [.one (.ptr q 0 0)] h = some r/\P r by rw [hP] at hh;exact hh
 simp only [d0z] at hf hroom
 have h32:u32 last < 256 ^ 4:=by unfold u32;omega
 have hu32:=o0t (s:=last) (by omega)
 obtain ⟨g1,e1,n1,r1,t1⟩:=M6 j0h (h:=h) (q:=q) hq hf hroom (c0f h32 _)
 simp only [oqa,N8,c8,oqb] at hroom
 obtain ⟨g2,e2,n2,r2,t2⟩:=M6 c0t (h:=g1) (q:=q) (by omega) r1 (by simp only [oqb];omega) (l:=u8 ts.length::ts.flatMap svB) (v:=u8 code) rfl
 obtain ⟨S,hS⟩:∃ S,g2.next = S:=⟨_,rfl⟩
 obtain ⟨g3,e3,n3,r3,t3⟩:=M6 c0t (h:=g2.new ⟨0,[3],true,[.nilslc,ii last,ii code]⟩) (q:=q) (by simp;omega) (by rw [p0 (by omega)];exact r2) (by simp only [oqb];omega) (l:=ts.flatMap svB) (v:=u8 ts.length) rfl
 simp only [A6] at n3 t3
 have hw1:IntKind.i64.wrap last = last:=wrap_i64 (by omega) (by omega)
 have hcv:∀ h,B6 prog 138 3 (.int .u32 ((u32 last:Nat):Int)) h = some (.val (.one (ii last)) h):=fun h=>by simp [B6,hu32,hw1]
 have hub:∀ n:Int,0 <= n->n <= 255->F7 (u8 n) = .int .u8 n:=fun n h0 h1=>by
  rw [<- b0h,g0o h0 (by omega)]
 rw [hub code hc.1 hc.2] at e2
 rw [hub ts.length (by omega) (by omega)] at e3
 have hcc:∀ h,B6 prog 5 47 (.int .u8 code) h = some (.val (.one (ii code)) h):=fun h=>by rw [G0P,wrap_i64 (by omega) (by omega)]
 have hS3:g3.f S = some ⟨0,[3],true,[.nilslc,ii last,ii code]⟩:=by rw [t3 S (by omega) (by omega)];simp [<- hS]
 have w3:StAt g3 S .nilslc [] last code:=⟨by omega,hS3,.inl ⟨rfl,rfl⟩,by simp,by simp [fpS,z7]⟩
 have k3:∀ b,b < h.next->b ≠ q->g3.f b = h.f b:=fun b hb hbq=>by rw [t3 b (by omega) hbq,p0 (by omega),t2 b (by omega) hbq,t1 b hb hbq]
 have d16:¬ (16:Int) < (ts.length:Int):=by omega
 have d16n:¬ 16 < ts.length:=by omega
 have d16m:decide (16 < ts.length) = false:=decide_eq_false d16n
 have d16':decide ((16:Int) < (ts.length:Int)) = false:=decide_eq_false d16
 refine zzE func54 rfl ?_
 simp only [f54]
 intro Q1 Y1
 repeat' (first
  | (replace Y1:=Y1;simp [e1,hcv,e2,hcc,hS,e3,d16n])
  | refine Y1 _ _ _ ?_
  | (first | refine dF (id:=11) z0T [] ?_ | refine dF (id:=14) l0X [(7,12)] ?_))
 refine I8 hp ts (fun a r fr hh=>(∃ ps sp sl,StAt hh S sp ps last code/\ps.map (·.t) = a.map d0k/\(∀ b ∈ fpS S sp ps,h.next <= b)/\Sl hh 2 I5 sl (a.map (·.span))/\(∀ b,z7 sl = some b->h.next <= b/\b ∉ fpS S sp ps)/\hh.f q = some (rdB (some (r.flatMap svB)))/\(∀ b,b < h.next->b ≠ q->hh.f b = h.f b)/\h.next <= hh.next /\
  ∃ j:Nat->AV,fr = ((.one (.ptr q 0 0))::j 1::j 2::(.one (.ptr S 0 0))::(.one (.int .u8 r.length))::(.one sl)::j 6::j 7::j 8::j 9::j 10::j 11::j 12::j 13::j 14::j 15::j 16::j 17::j 18::j 19::j 20::j 21::j 22::j 23::j 24::j 25::j 26::j 27::j 28::j 29::j 30::j 31::j 32::j 33::j 34::j 35::j 36::j 37::j 38::j 39::j 40::j 41::j 42::j 43::j 44::j 45::j 46::j 47::j 48::j 49::j 50::j 51::j 52::j 53::j 54::j 55::j 56::j 57::j 58::j 59::j 60::j 61::j 62::j 63::j 64::j 65::j 66::j 67::j 68::j 69::j 70::j 71::j 72::j 73::j 74::j 75::j 76::j 77::j 78::j 79::j 80::j 81::j 82::j 83::j 84::j 85::j 86::j 87::j 88::j 89::j 90::j 91::j 92::j 93::j 94::j 95::j 96::j 97::j 98::j 99::j 100::j 101::j 102::[]))) ?_ ?_ _ _ ?_
 rotate_left 2
 ·exact ⟨[],.nilslc,.nilslc,w3,rfl,by simp [fpS,z7];omega,.inl ⟨rfl,rfl⟩,by simp [z7],r3,k3,by omega,y0 (by simp)⟩
 ·rintro a x r fr hh hll ⟨ps,sp,sl,w,hps,hlow,hsl,hslo,hqf,hkp,hnx,j,rfl⟩
  have ox:=ok x (by rw [hll];simp)
  have hgx:=hg x (by rw [hll];simp)
  have hlen:ps.length = a.length:=by have:=congrArg List.length hps;simpa using this
  have hal:a.length + (r.length + 1) <= 16:=by rw [hll] at hn;simpa using hn
  have hwl:=w.fp_lt
  have hsS:=w.lt
  have hSl:h.next <= S:=hlow S (by simp [fpS])
  have hby:(x::r).flatMap svB = (if x.fr then 1 else 0)::(L7 x.span++(N8 x.gen++(c0i x.rows++(b0M x.cache++r.flatMap svB)))):=by simp [svB,a0E]
  rw [hby] at hqf
  have hrm:((if x.fr then 1 else 0)::(L7 x.span++(N8 x.gen++(c0i x.rows++(b0M x.cache++r.flatMap svB))))).length <= 1099511627776:=by
   rw [<- hby]
   have:(ts.flatMap svB).length = (a.flatMap svB).length + ((x::r).flatMap svB).length:=by rw [hll];simp
   omega
  obtain ⟨u1,d1,m1,q1,f1⟩:=M6 c0t (h:=hh) (q:=q) (by omega) hqf hrm rfl
  simp only [oqb] at hrm
  obtain ⟨_,d2,u2,d,pr,pc,qr,qc,rfl,v1,v2,v4,v5,v6,v7⟩:=n0a (h:=u1) (q:=q) (rest:=r.flatMap svB) ox.wr.sp ox.gen ox.wr.rows ox.rd ox.wr.cache ox.inn (by omega) q1 (by omega)
  obtain ⟨fp,hfp⟩:∃ f,f = d::pr::pc::(qr.toList++qc.toList):=⟨_,rfl⟩
  have hnewb:∀ b ∈ fp,u1.next <= b/\b < u2.next:=fun b hb=>v7.2 b (by rw [<- hfp];exact hb)
  have hd:=hnewb d (by rw [hfp];simp)
  have hpr:=hnewb pr (by rw [hfp];simp)
  have hpc:=hnewb pc (by rw [hfp];simp)
  have hqr:∀ b,qr = some b->u1.next <= b/\b < u2.next:=fun b hb=>hnewb b (by rw [hfp];simp [hb])
  have hqc:∀ b,qc = some b->u1.next <= b/\b < u2.next:=fun b hb=>hnewb b (by rw [hfp];simp [hb])
  have hnd:fp.Nodup:=by rw [hfp];exact v7.1
  have hnd2:=hnd
  rw [hfp] at hnd2
  simp only [List.nodup_cons,oqf,oqe,Option.mem_toList,not_or] at hnd2
  obtain ⟨⟨x1,x2,x3,x4⟩,_⟩:=hnd2
  obtain ⟨u3,hu3⟩:∃ u3,u2.set d (Y0 x.span x.gen x.fr (.ptr pr 0 0) (.ptr pc 0 0)) = u3:=⟨_,rfl⟩
  have nu3:u3.next = u2.next:=by rw [<- hu3];simp
  have ku2:∀ b,b < hh.next->b ≠ q->u2.f b = hh.f b:=fun b hb hbq=>by rw [v2 b (by omega) hbq,f1 b hb hbq]
  have ku3:∀ b,b < hh.next->b ≠ q->u3.f b = hh.f b:=fun b hb hbq=>by rw [<- hu3,l0,if_neg (by omega),ku2 b hb hbq]
  have hFq:∀ b ∈ fpS S sp ps,b < hh.next/\b ≠ q:=fun b hb=>⟨hwl b hb,fun e=>by have:=hlow b hb;omega⟩
  have w1:=w.keep m1 fun b hb=>f1 b (hFq b hb).1 (hFq b hb).2
  have w2:=w.keep (h':=u2) (by omega) fun b hb=>ku2 b (hFq b hb).1 (hFq b hb).2
  have w3:=w.keep (h':=u3) (by omega) fun b hb=>ku3 b (hFq b hb).1 (hFq b hb).2
  obtain ⟨p,hp⟩:∃ p:Pt,p = ⟨d,d0k x,fp⟩:=⟨_,rfl⟩
  have hPd:X2 p = [.ptr d 0 0]:=by rw [hp];rfl
  obtain ⟨sp',u4,d4,⟨b4,c4,z4,hs4,ar4⟩,l1,l2,l3⟩:=P7 (P:=prog) (h:=u3.new ⟨0,[1],true,[.ptr d 0 0]⟩) (t:=95) underlying95 (by simp) (by simp) Tryz.bytes98 (by omega) c0d (a:=.slc u3.next 0 0 1 1 none) (m:=[p]) (w3.new _).spine rfl (by simp [C6,cat,sub,hPd]) (by simp) (by simp only [oqb,oqc,Nat.zero_add,N3];omega)
  simp only [A6] at l1 l2 l3
  have a4:Sl u4 1 X2 sp' (ps++[p]):=.inr ⟨b4,c4,z4,hs4,ar4⟩
  have hspS:∀ b,z7 sp = some b->b ∈ fpS S sp ps:=fun b hb=>by simp [fpS,hb]
  have hslq:∀ b,z7 sl = some b->b < hh.next/\b ≠ q/\z7 sp ≠ some b:=fun b hb=>⟨hsl.lt hb,fun e=>by have:=(hslo b hb).1;omega,fun e=>(hslo b hb).2 (hspS b e)⟩
  have ku4:∀ b,b < hh.next->b ≠ q->z7 sp ≠ some b->u4.f b = hh.f b:=fun b hb hbq hbo=>by rw [l2 b (by omega) hbo,p0 (by omega),ku3 b hb hbq]
  have s4:Sl u4 2 I5 sl (a.map (·.span)):=hsl.keep (by omega) fun b hb=>by obtain ⟨y1,y2,y3⟩:=hslq b hb;exact ku4 b y1 y2 y3
  have n4:(u4.new ⟨0,[2],true,[.str x.span.lo,.str x.span.hi]⟩).next = u4.next + 1:=by simp
  obtain ⟨sl',u5,d5,⟨b5,c5,z5,hs5,ar5⟩,l4,l5,l6⟩:=P7 (P:=prog) (h:=u4.new ⟨0,[2],true,[.str x.span.lo,.str x.span.hi]⟩) (t:=72) underlying72 (by simp) (by simp) Tryz.bytes43 (by omega) a0w (a:=.slc u4.next 0 0 1 2 none) (m:=[x.span]) (s4.keep (h':=u4.new ⟨0,[2],true,[.str x.span.lo,.str x.span.hi]⟩) (by simp) fun b hb=>p0 (by have:=s4.lt hb;omega)) rfl (by simp [C6,cat,sub,I5]) (by simp) (by simp only [oqi,oqb,oqc,Nat.zero_add,N3];omega)
  simp only [A6] at l4 l5 l6
  have a5:Sl u5 2 I5 sl' ((a++[x]).map (·.span)):=by rw [List.map_append];exact .inr ⟨b5,c5,z5,hs5,ar5⟩
  obtain ⟨u6,hu6⟩:∃ u6,u5.set S ⟨0,[3],true,[sp',ii last,ii code]⟩ = u6:=⟨_,rfl⟩
  have nu6:u6.next = u5.next:=by rw [<- hu6];simp
  have own4:∀ b,z7 sp' = some b->z7 sp = some b \/ u2.next <= b:=fun b hb=>by
   rcases l3 b hb with h | h
   ·exact .inl h
   ·right;omega
  have hsl4:∀ b,z7 sl = some b->z7 sp' ≠ some b:=fun b hb hc=>by
   obtain ⟨y1,y2,y3⟩:=hslq b hb
   rcases own4 b hc with h | h
   ·exact y3 h
   ·omega
  have ku5:∀ b,b < u4.next->z7 sl ≠ some b->u5.f b = u4.f b:=fun b hb hbo=>by rw [l5 b (by omega) hbo,p0 (by omega)]
  have ku6:∀ b,b < u4.next->z7 sl ≠ some b->b ≠ S->u6.f b = u4.f b:=fun b hb hbo hbS=>by rw [<- hu6,l0,if_neg hbS,ku5 b hb hbo]
  have hnew6:∀ b,u1.next <= b->b < u2.next->u6.f b = u3.f b:=fun b hb hb2=>by
   rw [ku6 b (by omega) (fun e=>by have:=(hslq b e).1;omega) (by omega),l2 b (by omega) (fun e=>by have:=hwl b (hspS b e);omega),p0 (by omega)]
  have tb:TabAt u6 p.d p.t p.fp:=by
   rw [hp]
   refine ⟨pr,pc,qr,qc,by simp only;omega, ?_,v5.keep (by omega) ?_ fun b hb=>?_,v6.keep (by omega) ?_ fun b hb=>?_,hfp⟩
   ·simp only;rw [hnew6 d hd.1 hd.2,<- hu3];simp [d0k]
   ·rw [hnew6 pr hpr.1 hpr.2,<- hu3,l0,if_neg (Ne.symm x1)]
   ·rw [hnew6 b (hqr b hb).1 (hqr b hb).2,<- hu3,l0,if_neg (fun e=>x3 (by rw [<- e];exact hb))]
   ·rw [hnew6 pc hpc.1 hpc.2,<- hu3,l0,if_neg (Ne.symm x2)]
   ·rw [hnew6 b (hqc b hb).1 (hqc b hb).2,<- hu3,l0,if_neg (fun e=>x4 (by rw [<- e];exact hb))]
  have hfold:∀ b,b < hh.next->b ≠ q->z7 sp ≠ some b->z7 sl ≠ some b->b ≠ S->u6.f b = hh.f b:=fun b y1 y2 y3 y4 y5=>by rw [ku6 b (by omega) y4 y5,ku4 b y1 y2 y3]
  have wnd:=w.nd
  simp only [fpS,List.nodup_cons,oqe,not_or] at wnd
  have hFl:∀ b ∈ ps.flatMap (·.fp),b ∈ fpS S sp ps:=fun b hb=>by simp only [fpS,oqf,oqe];exact .inr (.inr hb)
  have w6:StAt u6 S sp' (ps++[p]) last code:=w.more (by omega) (by rw [<- hu6];simp) (a4.keep (by omega) fun b hb=>ku6 b (a4.lt hb) (fun e=>hsl4 b e hb) (fun e=>by
    rcases own4 b hb with h | h
    ·exact wnd.1.1 (by rw [h];simp [e])
    ·omega)) (n:=u2.next) (by omega) own4 tb (fun b hb=>by rw [hp] at hb;have:=hnewb b hb;omega) (by rw [hp];exact hnd)
   fun b hb=>hfold b (hFq b (hFl b hb)).1 (hFq b (hFl b hb)).2 (fun e=>by
    have:=(List.nodup_append.1 wnd.2).2.2 b (by rw [e];simp) b hb;exact this rfl) (fun e=>(hslo b e).2 (hFl b hb)) (fun e=>wnd.1.2 (by rw [<- e];exact hb))
  have hfp6:∀ b ∈ fpS S sp' (ps++[p]),b ∈ fpS S sp ps \/ u1.next <= b/\(b < u2.next \/ z7 sp' = some b):=fun b hb=>by
   simp only [fpS,List.flatMap_append,List.flatMap_cons,List.flatMap_nil,List.append_nil,oqf,oqe,Option.mem_toList] at hb
   rcases hb with h | h | h | h
   ·left;simp [fpS,h]
   ·rcases own4 b h with h' | h'
    ·exact .inl (hspS b h')
    ·right;exact ⟨by omega,.inr h⟩
   ·exact .inl (hFl b h)
   ·right;rw [hp] at h;have:=hnewb b h;exact ⟨by omega,.inl (by omega)⟩
  have inv1:∀ b ∈ fpS S sp' (ps++[p]),h.next <= b:=fun b hb=>by
   rcases hfp6 b hb with h | h
   ·exact hlow b h
   ·omega
  have inv2:∀ b,z7 sl' = some b->h.next <= b/\b ∉ fpS S sp' (ps++[p]):=fun b hb=>by
   rcases l6 b hb with h | h
   ·refine ⟨(hslo b h).1,fun hc=>?_⟩
    rcases hfp6 b hc with hc | hc
    ·exact (hslo b h).2 hc
    ·have:=(hslq b h).1;omega
   ·refine ⟨by omega,fun hc=>?_⟩
    rcases hfp6 b hc with hc | hc
    ·have:=hwl b hc;omega
    ·rcases hc.2 with h2 | h2
     ·omega
     ·have:=a4.lt h2;omega
  have inv3:Sl u6 2 I5 sl' ((a++[x]).map (·.span)):=a5.keep (by omega) fun b hb=>by
   rw [<- hu6,l0,if_neg (fun e=>(inv2 b hb).2 (by rw [e];simp [fpS]))]
  have inv4:u6.f q = some (rdB (some (r.flatMap svB))):=by
   rw [ku6 q (by omega) (fun e=>(hslq q e).2.1 rfl) (by omega),l2 q (by omega) (fun e=>(hFq q (hspS q e)).2 rfl),p0 (by omega),<- hu3,l0,if_neg (by omega)];exact v1
  have inv5:∀ b,b < h.next->b ≠ q->u6.f b = h.f b:=fun b hb hbq=>by
   rw [hfold b (by omega) hbq (fun e=>by have:=hlow b (hspS b e);omega) (fun e=>by have:=(hslo b e).1;omega) (by omega)];exact hkp b hb hbq
  have hps':(ps++[p]).map (·.t) = (a++[x]).map d0k:=by simp [hps,hp]
  have S2:u2.f S = some ⟨0,[3],true,[sp,ii last,ii code]⟩:=w2.blk
  have S3:u3.f S = some ⟨0,[3],true,[sp,ii last,ii code]⟩:=w3.blk
  have S5:u5.f S = some ⟨0,[3],true,[sp,ii last,ii code]⟩:=by rw [ku5 S (by omega) (fun e=>(hslo S e).2 (by simp [fpS])),l2 S (by omega) (fun e=>wnd.1.1 (by rw [e];simp)),p0 (by omega)];exact S3
  have D3:u3.f d = some (Y0 x.span x.gen x.fr (.ptr pr 0 0) (.ptr pc 0 0)):=by rw [<- hu3];simp
  have D4:u4.f d = some (Y0 x.span x.gen x.fr (.ptr pr 0 0) (.ptr pc 0 0)):=by rw [l2 d (by omega) (fun e=>by have:=hwl d (hspS d e);omega),p0 (by omega)];exact D3
  obtain ⟨hla,hget⟩:=c0s w2.spine
  have hwd:IntKind.u8.wrap (((r.length + 1:Nat):Int) - 1) = r.length:=by
   rw [show (((r.length + 1:Nat):Int) - 1) = r.length from by omega];exact g0o (by omega) (by omega)
  have hwd0:IntKind.u8.wrap (r.length:Int) = r.length:=g0o (by omega) (by omega)
  have dg:¬ last < x.gen:=by omega
  have dg':decide (last < x.gen) = false:=decide_eq_false dg
  have dp:decide ((0:Int) < ((r.length + 1:Nat):Int)) = true:=decide_eq_true (by omega)
  simp only [Y0] at v4 hu3 D3 D4
  have hrl:((x::r).length:Int) = ((r.length + 1:Nat):Int):=rfl
  rw [hlen] at hla
  have mS:¬ S = u3.next:=by omega
  have mS4:¬ S = u4.next:=by omega
  have md3:¬ d = u3.next:=by omega
  have md4:¬ d = u4.next:=by omega
  obtain ⟨V,hV,hV1,hV2⟩:∃ V:Int,F7 (if x.fr then 1 else 0) = .int .u8 V/\¬ 1 < V/\(V == 1) = x.fr:=by
   cases x.fr
   ·exact ⟨0,rfl,by omega,rfl⟩
   ·exact ⟨1,rfl,by omega,rfl⟩
  have hV1':decide (1 < V) = false:=decide_eq_false hV1
  rw [hV] at d1
  rcases List.eq_nil_or_concat a with ha | ⟨m,y,ha⟩
  ·have z0:a.length = 0:=by rw [ha];rfl
   rw [z0] at hla
   first | (refine s9 ?_;intro Q2 Y2) | have Y2:=oqk
   repeat' (first
    | (replace Y2:=Y2;simp [-lay,L5,L6,O6,d1,d2,S2,hla,v4,hV1,hV2,dg,hu3,S3,D3,d4,D4,d5,S5,hu6,md3])
    | (refine Y2 _ _ _ ?_;clear Y2 Q2;first | simp only [] | simp [-lay,L5,L6,O6,b0o,O7,dp,d1,d2,S2,hla,v4,hV1,hV1',hV2,dg,dg',hu3,S3,D3,d4,D4,d5,S5,hu6,mS,mS4,md3,md4,hwd] | skip)
    | (refine F6 (by assumption) ?_;(try clear Y2);first | simp only [] | simp [-lay,L5,L6,O6,b0o,O7,dp,d1,d2,S2,hla,v4,hV1,hV1',hV2,dg,dg',hu3,S3,D3,d4,D4,d5,S5,hu6,mS,mS4,md3,md4,hwd] | skip)
    | ((fail_if_success replace Y2:=Y2);(first | refine s9 ?_ | refine A1 ?_ | refine A4 ?_);intro Q2 Y2)
    | (first | refine dF (id:=11) z0T [] ?_ | refine dF (id:=14) l0X [(7,12)] ?_))
   exact ⟨_,_,_,w6,hps',inv1,inv3,inv2,inv4,inv5,by omega,y0 (by simp [hwd0])⟩
  ·have hal1:a.length = m.length + 1:=by rw [ha];simp
   obtain ⟨pm,pl,hpp,hpm,hpy⟩:=List.map_eq_append_iff.1 (show ps.map (·.t) = m.map d0k++[d0k y] by rw [hps,ha];simp)
   obtain ⟨py,pl2,rfl,hpy1,hpy2⟩:=List.map_eq_cons_iff.1 hpy
   obtain rfl:pl2 = []:=by simpa using hpy2
   have hml:pm.length = m.length:=by have:=congrArg List.length hpm;simpa using this
   obtain ⟨hix,hrd⟩:=hget m.length (by omega)
   have hpe:ps[m.length]'(by omega) = py:=by simp only [hpp];rw [List.getElem_append_right (by omega)];simp [hml]
   rw [hpe] at hrd
   obtain ⟨yr,yc,hyb,_⟩:=f0a (w2.tabs py (by rw [hpp];simp))
   rw [show py.t = d0k y from hpy1] at hyb
   have hlt:Op.bytesLess y.span.lo x.span.lo = true:=hs m y x r (by rw [hll,ha];simp)
   have hk0:decide ((0:Int) < (a.length:Int)) = true:=by simp;omega
   have hk1:(0:Int) < (a.length:Int):=by omega
   have hk2:0 < a.length:=by omega
   have hwm:IntKind.i64.wrap ((a.length:Int) - 1) = m.length:=by rw [show (a.length:Int) - 1 = m.length from by omega];exact wrap_i64 (by omega) (by omega)
   simp only [d0k] at hyb
   first | (refine s9 ?_;intro Q3 Y3) | have Y3:=oqk
   repeat' (first
    | (replace Y3:=Y3;simp [-lay,L5,L6,O6,O7,d1,d2,S2,hla,v4,hV1,hV2,dg,hk2,hwm,hix,hrd,hyb,hlt,hu3,S3,D3,d4,D4,d5,S5,hu6,md3])
    | (refine Y3 _ _ _ ?_;clear Y3 Q3;first | simp only [] | simp [-lay,L5,L6,O6,b0o,O7,dp,d1,d2,S2,hla,v4,hV1,hV1',hV2,dg,dg',hk0,hk1,hk2,hwm,hix,hrd,hyb,hlt,hu3,S3,D3,d4,D4,d5,S5,hu6,mS,mS4,md3,md4,hwd] | skip)
    | (refine F6 (by assumption) ?_;(try clear Y3);first | simp only [] | simp [-lay,L5,L6,O6,b0o,O7,dp,d1,d2,S2,hla,v4,hV1,hV1',hV2,dg,dg',hk0,hk1,hk2,hwm,hix,hrd,hyb,hlt,hu3,S3,D3,d4,D4,d5,S5,hu6,mS,mS4,md3,md4,hwd] | skip)
    | ((fail_if_success replace Y3:=Y3);(first | refine s9 ?_ | refine A1 ?_ | refine A4 ?_);intro Q3 Y3)
    | (first | refine dF (id:=11) z0T [] ?_ | refine dF (id:=14) l0X [(7,12)] ?_))
   exact ⟨_,_,_,w6,hps',inv1,inv3,inv2,inv4,inv5,by omega,y0 (by simp [hwd0])⟩
 ·rintro fr hh ⟨ps,sp,sl,w,hps,hlow,hsl,hslo,hqf,hkp,hnx,j,rfl⟩
  have eA:W K 31 [.one sl] hh = some (.ret (.one (.bool true)) hh):=by
   have:=(j0i (ts.map (·.span)) (by rw [oqi];omega)).view hp (q0J (by simp [hne]) hsl)
   rw [hap] at this;exact this
  first | (refine s9 ?_;intro Q4 Y4) | have Y4:=oqk
  repeat' (first
   | (replace Y4:=Y4;simp [eA])
   | (refine Y4 _ _ _ ?_;clear Y4 Q4;first | simp only [] | simp [eA] | skip)
   | (refine F6 (by assumption) ?_;(try clear Y4);first | simp only [] | simp [eA] | skip)
   | ((fail_if_success replace Y4:=Y4);(first | refine s9 ?_ | refine A1 ?_ | refine A4 ?_);intro Q4 Y4)
   | (first | refine dF (id:=11) z0T [] ?_ | refine dF (id:=14) l0X [(7,12)] ?_))
  rw [hP]
  exact ⟨hh,S,sp,ps,rfl,w,hps,hqf,hnx,hkp,hlow⟩
theorem B0y {h:H} {ts:List TabD} {last code:Int} (hne:ts ≠ []) (ok:∀ t ∈ ts,RdOk t) (hg:∀ t ∈ ts,t.gen <= last) (hl:0 <= last/\last <= 1073741824) (hc:0 <= code/\code <= 255) (hn:ts.length <= 16) (hap:j0F (ts.map (·.span)) = true)
  (hs:∀ a y x b,ts = a++y::x::b->blt y.span.lo x.span.lo = true) :
  ∃ h' s sp ps,W K 27 [.one (bs (some (d0z ts last code)))] h = some (.ret (.tup [(false,[.ptr s 0 0]),(false,[.bool true])]) h')/\StAt h' s sp ps last code/\ps.map (·.t) = ts.map d0k/\Kept h h'/\∀ b ∈ fpS s sp ps,h.next <= b:=by
 have hroom:(d0z ts last code).length <= 1099511627776:=by
  have h1:=j0H (ts:=ts) fun t ht=>(ok t ht).wr
  have:268500000 * ts.length <= 268500000 * 16:=Nat.mul_le_mul_left _ hn
  simp only [d0z,oqa,N8,c8,oqb];omega
 obtain ⟨h2,hh2⟩:∃ h2,h.new ⟨0,[1],true,[.nilptr]⟩ = h2:=⟨_,rfl⟩
 have n2:h2.next = h.next + 1:=by rw [<- hh2];simp
 have k2:∀ b,b < h.next->h2.f b = h.f b:=fun b hb=>by rw [<- hh2,p0 (by omega)]
 obtain ⟨TB,hTB⟩:∃ TB,d0z ts last code = TB:=⟨_,rfl⟩
 obtain ⟨_,e3,h3,s,sp,ps,rfl,w3,hps,v1,v2,v3,v4⟩:=y0F (h:=rdH h2 (some TB)) (q:=h2.next + 1) hne ok hg hl hc hn hap hs (by simp) (by rw [hTB];simp [L8]) hroom
 have nr:(rdH h2 (some TB)).next = h2.next + 1 + 1 + 1:=by simp [rdH]
 rw [nr] at v2 v3 v4
 have z3:h3.f h.next = some ⟨0,[1],true,[.nilptr]⟩:=by
  rw [v3 _ (by omega) (by omega),p0 (by simp;omega),p0 (by simp;omega),p0 (by omega),<- hh2];simp
 have hcl:W K 53 (.one (.ptr (h2.next + 1) 0 0)::[AS.ptr h.next 0 0].map AV.one) (rdH h2 (some TB)) = some (.ret (.tup []) (h3.set h.next ⟨0,[1],true,[.ptr s 0 0]⟩)):=by
  simp only [List.map_cons,List.map_nil]
  generalize rdH h2 (some TB) = H0 at *
  refine zzD func53 rfl ?_
  simp only [f53]
  intro Q1 Y1
  repeat' (first
   | (replace Y1:=Y1;simp [e3,z3])
   | refine Y1 _ _ _ ?_)
 have hr:=k0g (h:=h2) (o:=some TB) (g:=53) (caps:=[.ptr h.next 0 0]) hcl (l:=some []) (by
   rw [l0,if_neg (by omega),v3 _ (by omega) (by omega)];simp [L8])
  (by rw [l0,if_neg (by omega)];exact v1) (by rw [l0,if_neg (by omega),v3 _ (by omega) (by omega)];simp [L8])
 simp only [K6,oqc,decide_true] at hr
 obtain ⟨h4,hh4⟩:∃ h4,(h3.set h.next ⟨0,[1],true,[.ptr s 0 0]⟩).set h2.next ⟨0,[1],true,[.bool true]⟩ = h4:=⟨_,rfl⟩
 rw [hh4] at hr
 have n4:h4.next = h3.next:=by rw [<- hh4];simp
 have k4:∀ b,b ≠ h.next->b ≠ h2.next->h4.f b = h3.f b:=fun b h1 h2'=>by rw [<- hh4,l0,if_neg h2',l0,if_neg h1]
 have z4:h4.f h.next = some ⟨0,[1],true,[.ptr s 0 0]⟩:=by rw [<- hh4,l0,if_neg (by omega)];simp
 refine ⟨h4,s,sp,ps, ?_,w3.keep (by omega) fun b hb=>k4 b (by have:=v4 b hb;omega) (by have:=v4 b hb;omega),hps,⟨by omega,fun b hb=>?_⟩,fun b hb=>by have:=v4 b hb;omega⟩
 ·rw [hTB]
  refine zzD func27 rfl ?_
  simp only [f27]
  intro Q2 Y2
  repeat' (first
   | (replace Y2:=Y2;simp [hh2,hr,z4])
   | refine Y2 _ _ _ ?_)
 ·rw [k4 b (by omega) (by omega),v3 b (by omega) (by omega),p0 (by simp;omega),p0 (by simp;omega),p0 (by omega),k2 b hb]
theorem C0T {h:H} {s:Nat} {sp:AS} {l1 l2:List Pt} {p:Pt} {last code:Int} (w:StAt h s sp (l1++p::l2) last code) (hn:(l1++p::l2).length < 1000) (client seq:Int) (C7:Int) (D5:BL) (L3:BL) (r9:Bool) (l9:Bool) (s8:BL) (c9:Int) (p4:Option BL) (s7:Nat) (o_l:Option (List Change)) (C5:Int) (oo:h0X ⟨C7,D5,L3,⟨r9,l9,s8,⟨c9,p4,s7⟩⟩,o_l,C5⟩ = true) (ol:(ls o_l).length < 9223372036854775807)
  (hf:b0O D5 none (l1++p::l2) = some p) (okc:CchOk p.t.cache) (hlk:a0D p.t.cache client seq = (none,3)) :
  ∃ h',W K 12 [.one (.ptr s 0 0),.one (ii client),.one (ii seq),.agg [ii 1,ii C7,.str D5,.str L3,.bool r9,.bool l9,.str s8,ii c9,bs p4,.flt s7,sl 6 l8 o_l,ii C5,.str [],.str [],ii 0,.str [],ii 0,ii 0,.nilslc]] h = some (.ret (.agg (c6 (noA 27))) h')/\Kept h h':=by
 obtain ⟨B,hB⟩:∃ B:Blk,B = ⟨0,[19],true,[ii 1,ii C7,.str D5,.str L3,.bool r9,.bool l9,.str s8,ii c9,bs p4,.flt s7,sl 6 l8 o_l,ii C5,.str [],.str [],ii 0,.str [],ii 0,ii 0,.nilslc]⟩:=⟨_,rfl⟩
 obtain ⟨a1,a2,a3⟩:=w.at
 obtain ⟨pr,pc,qr,qc,t1,t2,t3,t4,t5⟩:=a1
 have w4:=((((w.new B).new R9).new ⟨0,[11],true,[ii C7,.str D5,.str L3,.bool r9,.bool l9,.str s8,ii c9,bs p4,.flt s7,sl 6 l8 o_l,ii C5]⟩).new R9)
 have e1:=o0l w4 (by omega) D5
 rw [hf] at e1
 simp only [i0X] at e1
 have e2:=o0j ((((t4.new B).new R9).new ⟨0,[11],true,[ii C7,.str D5,.str L3,.bool r9,.bool l9,.str s8,ii c9,bs p4,.flt s7,sl 6 l8 o_l,ii C5]⟩).new R9) okc client seq
 rw [hlk] at e2
 simp only [C9] at e2
 have d2:((h.new B).new R9).f p.d = some (Y0 p.t.span p.t.gen p.t.fr (.ptr pr 0 0) (.ptr pc 0 0)):=by rw [p0 (by simp;omega),p0 (by omega)];exact t2
 have hno:=q0D 27
 obtain ⟨C,hC⟩:∃ C,c6 (noA 27) = C:=⟨_,rfl⟩
 have hCl:C.length = 11:=by rw [<- hC];rfl
 have hCs:sub C 0 11 = some C:=L4 hCl
 rw [hC] at hno
 obtain ⟨h2,hh2⟩:∃ h2,(h.new B).new R9 = h2:=⟨_,rfl⟩
 have n2:h2.next = h.next + 1 + 1:=by rw [<- hh2];simp
 have eo:W K 39 [.one (.ptr s 0 0),.one (ii client),.one (ii seq),.agg [ii C7,.str D5,.str L3,.bool r9,.bool l9,.str s8,ii c9,bs p4,.flt s7,sl 6 l8 o_l,ii C5]] ((h.new B).new R9) = some (.ret (.agg C) ((((h.new B).new R9).new ⟨0,[11],true,[ii C7,.str D5,.str L3,.bool r9,.bool l9,.str s8,ii c9,bs p4,.flt s7,sl 6 l8 o_l,ii C5]⟩).new ⟨0,[11],true,C⟩)):=by
  rw [hh2] at e1 e2 d2 |-
  simp only [Y0] at d2
  have m0:¬ p.d = h2.next:=by omega
  have m1:¬ p.d = h2.next + 1:=by omega
  refine zzD func39 rfl ?_
  simp only [f39]
  intro Q1 Y1
  repeat' (first
   | (replace Y1:=Y1;simp [-lay,J2,hCl,hCs,w0J,e1,d2,m0,m1,e2,hno,T8])
   | refine Y1 _ _ _ ?_)
 rw [hB] at eo
 rw [<- hC] at eo
 have e:=s0o (B7:=1) client seq C7 D5 L3 r9 l9 s8 c9 p4 s7 o_l C5 [] [] 0 [] 0 0 none rfl (by simp only [c0j,if_true];exact oo) ol (by simpa only [C9] using eo) (by simp [L8])
 simp only [C9] at e
 exact ⟨_,e,t0K _ _ _ _ _ _⟩
theorem B0H {h:H} {s:Nat} (client seq:Int) (B7:Int) (B4:Int) (B8:BL) (D9:BL) (p5:Bool) (n9:Bool) (p7:BL) (j9:Int) (p6:Option BL) (p8:Nat) (I9:Option (List Change)) (A9:Int) (r8:BL) (u7:BL) (F5:Int) (M2:BL) (W0:Int) (V8:Int) (F8:Option BL) (hk:B7 = 1 \/ B7 = 2 \/ B7 = 3 \/ B7 = 4 \/ B7 = 5 \/ B7 = 6) (hok:c0j ⟨B7,⟨B4,B8,D9,⟨p5,n9,p7,⟨j9,p6,p8⟩⟩,I9,A9⟩,⟨r8,u7⟩,F5,M2,W0,V8,F8⟩ = false) (hl:(ls I9).length < 9223372036854775807) :
  W K 12 [.one (.ptr s 0 0),.one (ii client),.one (ii seq),.agg [ii B7,ii B4,.str B8,.str D9,.bool p5,.bool n9,.str p7,ii j9,bs p6,.flt p8,sl 6 l8 I9,ii A9,.str r8,.str u7,ii F5,.str M2,ii W0,ii V8,bs F8]] h = some (.ret (.agg (c6 (noA 1))) (((h.new ⟨0,[19],true,[ii B7,ii B4,.str B8,.str D9,.bool p5,.bool n9,.str p7,ii j9,bs p6,.flt p8,sl 6 l8 I9,ii A9,.str r8,.str u7,ii F5,.str M2,ii W0,ii V8,bs F8]⟩).new R9).set (h.next + 1) ⟨0,[11],true,c6 (noA 1)⟩)):=by
 have hr:=h0S B7 B4 B8 D9 p5 n9 p7 j9 p6 p8 I9 A9 r8 u7 F5 M2 W0 V8 F8 hl
 rw [hok] at hr
 have hno:=q0D 1
 have hCl:(c6 (noA 1)).length = 11:=rfl
 have hCs:sub (c6 (noA 1)) 0 11 = some (c6 (noA 1)):=L4 hCl
 generalize c6 (noA 1) = C at *
 rcases hk with rfl | rfl | rfl | rfl | rfl | rfl
 ·refine zzD func12 rfl ?_
  simp only [f12]
  intro Q2 Y2
  repeat' (first
   | (replace Y2:=Y2;simp [-lay,J2,hCl,hCs,hr,hno])
   | refine Y2 _ _ _ ?_)
 ·refine zzD func12 rfl ?_
  simp only [f12]
  intro Q3 Y3
  repeat' (first
   | (replace Y3:=Y3;simp [-lay,J2,hCl,hCs,hr,hno])
   | refine Y3 _ _ _ ?_)
 ·refine zzD func12 rfl ?_
  simp only [f12]
  intro Q4 Y4
  repeat' (first
   | (replace Y4:=Y4;simp [-lay,J2,hCl,hCs,hr,hno])
   | refine Y4 _ _ _ ?_)
 ·refine zzD func12 rfl ?_
  simp only [f12]
  intro Q5 Y5
  repeat' (first
   | (replace Y5:=Y5;simp [-lay,J2,hCl,hCs,hr,hno])
   | refine Y5 _ _ _ ?_)
 ·refine zzD func12 rfl ?_
  simp only [f12]
  intro Q6 Y6
  repeat' (first
   | (replace Y6:=Y6;simp [-lay,J2,hCl,hCs,hr,hno])
   | refine Y6 _ _ _ ?_)
 ·refine zzD func12 rfl ?_
  simp only [f12]
  intro Q7 Y7
  repeat' (first
   | (replace Y7:=Y7;simp [-lay,J2,hCl,hCs,hr,hno])
   | refine Y7 _ _ _ ?_)
end Go.Proofs.YtiagcnfmgigllaaGreat
