/- A part of a proof over the abstract machine. No conditions. -/
import Derived.Test.YtiagcnfmgigllaaGreatT61
import Derived.Test.YtiagcnfmgigllaaGreatWmNrm
import Derived.Test.YtiagcnfmgigllaaGreatT43
import Derived.Test.YtiagcnfmgigllaaGreatWmStore2
set_option linter.all false
namespace Go.Proofs.YtiagcnfmgigllaaGreat
open Go Go.Ab Wm NumPlain
set_option maxRecDepth 10000
set_option maxHeartbeats 4000000
theorem r0R {h:H} {s:Nat} {sp:AS} {l1 l2:List Pt} {p:Pt} {last code:Int} (B7:Int) (B4:Int) (B8:BL) (D9:BL) (p5:Bool) (n9:Bool) (p7:BL) (j9:Int) (p6:Option BL) (p8:Nat) (I9:Option (List Change)) (A9:Int) (r8:BL) (u7:BL) (F5:Int) (M2:BL) (W0:Int) (V8:Int) (F8:Option BL) (w:StAt h s sp (l1++p::l2) last code) (hn:(l1++p::l2).length = 16) (hi:idx (fun q=>d0w ⟨r8,u7⟩ q.t) (l1++p::l2) = l1.length) :
  W K 81 [.one (.ptr s 0 0),.agg [ii B7,ii B4,.str B8,.str D9,.bool p5,.bool n9,.str p7,ii j9,bs p6,.flt p8,sl 6 l8 I9,ii A9,.str r8,.str u7,ii F5,.str M2,ii W0,ii V8,bs F8]] h = some (.ret (.one (ii 13)) (h.new ⟨0,[19],true,[ii B7,ii B4,.str B8,.str D9,.bool p5,.bool n9,.str p7,ii j9,bs p6,.flt p8,sl 6 l8 I9,ii A9,.str r8,.str u7,ii F5,.str M2,ii W0,ii V8,bs F8]⟩)):=by
 obtain ⟨B0,hB0⟩:∃ B:Blk,B = ⟨0,[19],true,[ii B7,ii B4,.str B8,.str D9,.bool p5,.bool n9,.str p7,ii j9,bs p6,.flt p8,sl 6 l8 I9,ii A9,.str r8,.str u7,ii F5,.str M2,ii W0,ii V8,bs F8]⟩:=⟨_,rfl⟩
 have e1:=t0e (w.new B0) (by omega) ⟨r8,u7⟩
 rw [hi] at e1
 simp only at e1
 have hla:=(c0s w.spine).1
 rw [hn] at hla
 have f0:=w.blk
 have hsn:=w.lt
 have m0:¬ s = h.next:=by omega
 have d3:¬ (l1.length:Int) < 0:=by omega
 have d4:decide ((l1.length:Int) < 0) = false:=decide_eq_false d3
 generalize l1.length = N at *
 rw [hB0] at e1
 refine zzD Tryz.func81 rfl ?_
 simp only [Tryz.f81]
 intro Q1 Y1
 repeat' (first
  | (replace Y1:=Y1;simp [-lay,e1,f0,m0,d3,hla])
  | refine Y1 _ _ _ ?_
  | (first | refine dF (id:=10) h0R [] ?_ | refine dF (id:=11) g0z [(3,13),(5,13),(7,13)] ?_ | refine dF (id:=12) F0K [(4,13),(5,13),(7,13)] ?_))
theorem n0j {pre post:List TabD} {ps:List Pt} {R:List Named} (I:SpI (pre++(ps.map (·.t)++post)) R):∀ a x b,ps = a++x::b->∀ y ∈ a,pLt y x = true/\pLt x y = false:=fun a x b e y hy=>by
 have hc:=b0G I.con I.ok
 have h1:tlt y.t x.t = true:=f0h hc (a:=pre++a.map (·.t)) (x:=x.t) (b:=b.map (·.t)++post) (by rw [e];simp) (oqe.2 (.inr (List.mem_map.2 ⟨y,hy,rfl⟩)))
 exact ⟨h1,a0c h1⟩
theorem o0P {s:Span} {k:BL} (h:a0S s k = true):G9 s k = true/\s.lo ≠ k/\k ≠ []/\k.length <= 16:=by
 simp only [a0S,oqd,Bool.or_eq_true,beq_iff_eq] at h
 obtain ⟨h1,h2,h3,h4⟩:=h
 refine ⟨?_,fun e=>?_,fun e=>?_, ?_⟩
 ·simp only [G9,oqd,Bool.or_eq_true,beq_iff_eq,Bool.not_eq_true']
  exact ⟨a0c h2,h3⟩
 ·rw [e,blt,X1] at h2;cases h2
 ·rw [e] at h2;simp [blt] at h2
 ·simp only [K4,oqd,oqj] at h4;exact h4.1.2
structure Splt (pre post:List TabD) (l1 l2:List Pt) (p:Pt) (R:List Named) (k:BL) (g:Int) (ps':List Pt):Prop where
 has:G9 p.t.span k = true
 ne:p.t.span.lo ≠ k
 is:∃ pa pb,ps' = l1++pa::pb::l2/\pa.t = ta p.t k g/\pb.t = tb p.t k g
 len:ps'.length <= 16
 I:SpI (pre++(ps'.map (·.t)++post)) R
theorem n0T {h:H} {s:Nat} {sp:AS} {l1 l2:List Pt} {p:Pt} {last code:Int} {pre post:List TabD} {R:List Named} (w:StAt h s sp (l1++p::l2) last code) (hn:(l1++p::l2).length <= 16) (I:SpI (pre++((l1++p::l2).map (·.t)++post)) R) (client seq:Int) (k:BL) {g:Int} (hg:last < g) (hg1:1 <= g/\g <= 1073741824) (hcode:0 <= code/\code <= 255) :
  ∃ h' sp' ps' last' code' C,W K 12 [.one (.ptr s 0 0),.one (ii client),.one (ii seq),.agg (g0V 5 g p.t.span.lo p.t.span.hi k)] h = some (.ret (.agg (c6 C)) h')/\StAt h' s sp' ps' last' code'/\Fp h h' (fpS s sp (l1++p::l2)) (fpS s sp' ps')/\(last' = last \/ last' = g)/\(0 <= code'/\code' <= 255) /\
   (ps' = l1++p::l2 \/ last' = g/\Splt pre post l1 l2 p R k g ps'):=by
 cases hso:a0S p.t.span k with
 | false =>
  have e:=B0H (h:=h) (s:=s) client seq 5 0 [] [] false false [] 0 none 0 none 0 p.t.span.lo p.t.span.hi g k 0 0 none (.inr (.inr (.inr (.inr (.inl rfl))))) (by simp only [c0j,Int.reduceEq,if_false,or_self,or_false,if_true];rw [show ({ lo:=p.t.span.lo,hi:=p.t.span.hi }:Span) = p.t.span from rfl,hso];simp) (by simp)
  refine ⟨_,sp,_,last,code,noA 1,e,((w.new _).new _).out (fun hc=>by have:=w.fp_lt _ hc;omega) _,⟨by simp;omega,fun b hb hbn=>?_,fun b hb=>.inl hb⟩,.inl rfl,hcode,.inl rfl⟩
  rw [l0,if_neg (by omega),p0 (by simp;omega),p0 (by omega)]
 | true =>
  obtain ⟨hh,hne,hk0,hk⟩:=o0P hso
  have hpo:=I.ok p.t (by simp)
  have hc:=n0j I
  have hi:idx (fun q:Pt=>d0w ⟨p.t.span.lo,p.t.span.hi⟩ q.t) (l1++p::l2) = l1.length:=f0i (fun y hy=>p0N (y:=p.t.span) (hc l1 p l2 rfl y hy).1) (by simp [d0w,hpo.fr])
  have I2:=j0m (l1:=pre++l1.map (·.t)) (l2:=l2.map (·.t)++post) (t:=p.t) (by simpa using I) hk hk0 hh hne g
  obtain ⟨B,hB⟩:∃ B:Blk,B = ⟨0,[19],true,g0V 5 g p.t.span.lo p.t.span.hi k⟩:=⟨_,rfl⟩
  have w2:=(w.new B).new R9
  obtain ⟨h3,sp',ps',r,e3,w3,g3,hR⟩:=l0H 5 0 [] [] false false [] 0 none 0 none 0 p.t.span.lo p.t.span.hi g k 0 0 none w2 hg 81 (.inr (.inl ⟨rfl,rfl⟩)) (fun ps' r=>(r = 13/\ps' = l1++p::l2) \/ (r = 0/\(l1++p::l2).length < 16/\∃ pa pb,ps' = l1++pa::l2++[pb]/\pa.t = ta p.t k g/\pb.t = tb p.t k g))
   fun h2 wh gh=>by
    by_cases h16:(l1++p::l2).length < 16
    ·obtain ⟨h3,sp',pa,pb,e,tA,tB,w3,g3⟩:=p0B 5 0 [] [] false false [] 0 none 0 none 0 p.t.span.lo p.t.span.hi g k 0 0 none wh h16 hpo.rows hpo.cache hi hso
     exact ⟨h3,sp',_,0,e,w3,g3,by simp at h16 |-;omega,.inr ⟨rfl,h16,pa,pb,rfl,tA,tB⟩⟩
    ·have e:=r0R 5 0 [] [] false false [] 0 none 0 none 0 p.t.span.lo p.t.span.hi g k 0 0 none wh (by omega) hi
     exact ⟨_,sp,_,13,e,wh.new _,⟨by simp,fun b hb _=>p0 (by omega),fun b hb=>.inl hb⟩,hn,.inl ⟨rfl,rfl⟩⟩
  rw [hB] at e3 g3
  have hz:=(c0E w w3 g3).1
  have hk':=(c0E w w3 g3).2
  have e:=i0A client seq 5 0 [] [] false false [] 0 none 0 none 0 p.t.span.lo p.t.span.hi g k 0 0 none (.inr (.inl rfl)) (by simp only [c0j,Int.reduceEq,if_false,or_self,or_false,if_true];rw [show ({ lo:=p.t.span.lo,hi:=p.t.span.hi }:Span) = p.t.span from rfl,hso];simp [f0q];omega) (by simp) e3 hz
  refine ⟨_,sp',_,g,r,_,e,(hk' _).1,(hk' _).2,.inr rfl, ?_, ?_⟩
  ·rcases hR with ⟨rfl,_⟩ | ⟨rfl,_⟩ <;> omega
  ·rcases hR with ⟨rfl,rfl⟩ | ⟨rfl,h16,pa,pb,rfl,tA,tB⟩
   ·left;exact h0p fun a x b e y hy=>(hc a x b e y hy).2
   ·right
    have hs:Z5 pLt (l1++pa::l2++[pb]) = l1++pa::pb::l2:=by
     have hX:Z5 pLt (l1++pa::l2) = l1++pa::l2:=h0p fun a x b e y hy=>by
      have hm:(l1++pa::l2).map (fun z=>z.t.span.lo) = (l1++p::l2).map (fun z=>z.t.span.lo):=by simp [tA,ta]
      have hal:a.length < (l1++p::l2).length:=by
       have:=congrArg List.length e
       simp at this |-;omega
      have h1:=c0o hal
      have h2:((l1++p::l2)[a.length]).t.span.lo = x.t.span.lo:=by
       have h3:((l1++pa::l2).map fun z=>z.t.span.lo)[a.length]? = some x.t.span.lo:=by rw [e];simp
       rw [hm] at h3
       simp only [List.getElem?_map,List.getElem?_eq_getElem hal,Option.map_some,oqI] at h3
       exact h3
      obtain ⟨j,hj,rfl⟩:=List.getElem_of_mem hy
      have h4:((l1++p::l2)[j]'(by omega)).t.span.lo = (a[j]).t.span.lo:=by
       have h3:((l1++pa::l2).map fun z=>z.t.span.lo)[j]? = some (a[j]).t.span.lo:=by rw [e,List.map_append,List.getElem?_append_left (by simpa using hj)];simp [hj]
       rw [hm] at h3
       have hj2:j < (l1++p::l2).length:=by omega
       simp only [List.getElem?_map,List.getElem?_eq_getElem hj2,Option.map_some,oqI] at h3
       exact h3
      have h5:=(hc _ _ _ h1 ((l1++p::l2)[j]'(by omega)) (by rw [List.mem_iff_getElem];exact ⟨j,by simp;simp at hal;omega,by simp⟩)).2
      unfold pLt at h5 |-
      rw [h2,h4] at h5;exact h5
     rw [c0e,hX]
     have hb2:∀ y ∈ l2,pLt pb y = true:=fun y hy=>by
      have h7:=(d0D (l1:=pre++l1.map (·.t)) (t:=p.t) (l2:=l2.map (·.t)++post) (by simpa using I.con) (by simpa using I.ok)).1 y.t (oqe.2 (.inl (List.mem_map.2 ⟨y,hy,rfl⟩)))
      have h8:=(g0d hh hne).2
      unfold pLt
      rw [tB]
      have h9:blt k p.t.span.hi = true:=by
       rcases h8 with e | e
       ·exact absurd e h7.1
       ·exact e
      cases hd:blt p.t.span.hi y.t.span.lo with
      | true=>exact S1 _ _ _ h9 hd
      | false=>rw [show y.t.span.lo = p.t.span.hi from (a0a hd h7.2).symm];exact h9
     have hb1:∀ y ∈ l1++[pa],pLt pb y = false:=fun y hy=>by
      have h8:=(g0d hh hne).1
      unfold pLt
      rw [tB]
      rcases oqe.1 hy with hy | hy
      ·exact a0c (S1 _ _ _ (hc l1 p l2 rfl y hy).1 h8)
      ·rw [List.mem_singleton.1 hy,tA];exact a0c h8
     rw [show l1++pa::l2 = (l1++[pa])++l2 by simp,j0L _ _ _ _ hb2,k0v hb1];simp
    refine ⟨rfl,hh,hne,⟨pa,pb,hs,tA,tB⟩,by rw [hs];simp at h16 |-;omega, ?_⟩
    rw [hs]
    simp only [List.map_append,List.map_cons,tA,tB]
    simpa using I2
theorem t0x {x:Span} {g:Int} {t:TabD} (h:blt t.span.lo x.lo = true):b0U x g t = false:=by
 unfold b0U
 have:t.span ≠ x:=fun e=>by rw [e,blt,X1] at h;cases h
 simp [this]
theorem n0r {pre post:List TabD} {l1 l2:List Pt} {p:Pt} {R:List Named} (I:SpI (pre++((l1++p::l2).map (·.t)++post)) R) (q:Pt) (hs:q.t.span = p.t.span) (hg:q.t.gen = p.t.gen):idx (fun y:Pt=>b0U ⟨p.t.span.lo,p.t.span.hi⟩ p.t.gen y.t) (l1++q::l2) = l1.length :=
 f0i (fun y hy=>t0x (n0j I l1 p l2 rfl y hy).1) (by simp [b0U,hs,hg])
theorem r0F {h:H} {s:Nat} {sp:AS} {l1 l2:List Pt} {p:Pt} {last code:Int} {pre post:List TabD} {R:List Named} (w:StAt h s sp (l1++p::l2) last code) (hn:(l1++p::l2).length <= 16) (I:SpI (pre++((l1++p::l2).map (·.t)++post)) R) (hg:1 <= p.t.gen/\p.t.gen <= 1073741824) (client seq:Int) :
  ∃ h',W K 12 [.one (.ptr s 0 0),.one (ii client),.one (ii seq),.agg (g0V 2 p.t.gen p.t.span.lo p.t.span.hi [])] h = some (.ret (.agg (c6 (stA (a0E p.t.span p.t.gen p.t.rows p.t.cache)))) h') /\
   StAt h' s sp (l1++⟨p.d,{ p.t with fr:=true },p.fp⟩::l2) last code/\Fp h h' (fpS s sp (l1++p::l2)) (fpS s sp (l1++⟨p.d,{ p.t with fr:=true },p.fp⟩::l2)):=by
 have hpo:=I.ok p.t (by simp)
 have w2:StAt ((h.new ⟨0,[19],true,g0V 2 p.t.gen p.t.span.lo p.t.span.hi []⟩).new R9) s sp (l1++p::l2) last code:=(w.new _).new _
 obtain ⟨h3,e3,w3,g3⟩:=w0E 2 0 [] [] false false [] 0 none 0 none 0 p.t.span.lo p.t.span.hi p.t.gen [] 0 0 none w2 (by omega) (n0r I p rfl rfl) hpo.sp hpo.rows hpo.cache
 obtain ⟨hz,hk⟩:=c0E w w3 g3
 have e:=C0F client seq 2 0 [] [] false false [] 0 none 0 none 0 p.t.span.lo p.t.span.hi p.t.gen [] 0 0 none rfl (by simp only [c0j,Int.reduceEq,if_false,or_false,if_true];rw [show ({ lo:=p.t.span.lo,hi:=p.t.span.hi }:Span) = p.t.span from rfl,hpo.sp];simp [f0q,hg]) (by simp) e3 hz
 exact ⟨_,e,(hk _).1,(hk _).2⟩
theorem q0M {h:H} {s:Nat} {sp:AS} {l1 l2:List Pt} {p:Pt} {last code:Int} {pre post:List TabD} {R:List Named} (w:StAt h s sp (l1++⟨p.d,{ p.t with fr:=true },p.fp⟩::l2) last code) (hn:(l1++p::l2).length <= 16) (I:SpI (pre++((l1++p::l2).map (·.t)++post)) R) (hg:1 <= p.t.gen/\p.t.gen <= 1073741824) (client seq:Int) :
  ∃ h',W K 12 [.one (.ptr s 0 0),.one (ii client),.one (ii seq),.agg (g0V 4 p.t.gen p.t.span.lo p.t.span.hi [])] h = some (.ret (.agg (c6 (noA 0))) h')/\h.next <= h'.next/\∀ x,x < h.next->x ∉ fpS s sp (l1++⟨p.d,{ p.t with fr:=true },p.fp⟩::l2)->h'.f x = h.f x :=
 u0b w (by simp at hn |-;omega) p.t.span.lo p.t.span.hi p.t.gen (n0r I _ rfl rfl) rfl (by have:=(I.ok p.t (by simp)).sp;exact this) hg client seq
abbrev y0R (g:Int) (lo hi:BL) (st:Option BL):List AS:=[ii 3,ii 0,.str [],.str [],.bool false,.bool false,.str [],ii 0,.nilslc,.flt 0,.nilslc,ii 0,.str lo,.str hi,ii g,.str [],ii 0,ii 0,bs st]
theorem p0t {h:H} {s:Nat} {last code:Int} {x:Span} (w:StAt h s .nilslc [] last code) {gen:Int} {l:List Named} {ca:List Tld} (os:K4 x = true) (og:1 <= gen/\gen <= 1073741824) (ok:TblOk l) (okr:∀ x ∈ l,RowRd x.r) (okc:CchOk ca) (hin:∀ y ∈ l,G9 x y.name = true) (client seq:Int) {g:Int} (hg:last < g) (hg1:1 <= g/\g <= 1073741824)
  (hlen:(a0E x gen l ca).length <= 1048576) :
  ∃ h' sp' p,W K 12 [.one (.ptr s 0 0),.one (ii client),.one (ii seq),.agg (y0R g x.lo x.hi (some (a0E x gen l ca)))] h = some (.ret (.agg (c6 (noA 0))) h')/\p.t = ⟨x,g,false,l.map J6,ca.map V1⟩/\StAt h' s sp' [p] g 0/\Fp h h' (fpS s .nilslc []) (fpS s sp' [p]):=by
 obtain ⟨lo,hi⟩:=x
 obtain ⟨TB,hTB⟩:∃ TB,a0E ⟨lo,hi⟩ gen l ca = TB:=⟨_,rfl⟩
 obtain ⟨B,hB⟩:∃ B:Blk,B = ⟨0,[19],true,y0R g lo hi (some TB)⟩:=⟨_,rfl⟩
 have w2:=(w.new B).new R9
 obtain ⟨h3,sp',ps',r,e3,w3,g3,hR⟩:=l0H 3 0 [] [] false false [] 0 none 0 none 0 lo hi g [] 0 0 (some TB) w2 hg 80 (.inl ⟨rfl,rfl⟩) (fun ps' r=>r = 0/\∃ p,ps' = [p]/\p.t = ⟨⟨lo,hi⟩,g,false,l.map J6,ca.map V1⟩)
  fun h2 wh gh=>by
   obtain ⟨h3,sp',p,e,tp,w3,g3⟩:=n0H 3 0 [] [] false false [] 0 none 0 none 0 lo hi g [] 0 0 (some TB) wh os og ok okr okc hin (by rw [hTB]) (by rw [hTB] at hlen |-;omega)
   exact ⟨h3,sp',[p],0,e,w3,g3,by simp,rfl,p,rfl,tp⟩
 obtain ⟨rfl,p,rfl,tp⟩:=hR
 have hs:Z5 pLt [p] = [p]:=rfl
 rw [hs] at w3 g3
 rw [hB] at g3 e3
 obtain ⟨hz,hk'⟩:=c0E w w3 g3
 have e:=i0A client seq 3 0 [] [] false false [] 0 none 0 none 0 lo hi g [] 0 0 (some TB) (.inl rfl) (by rw [hTB] at hlen;simp [c0j,os,f0q,f0w,hg1,hlen]) (by simp) e3 hz
 exact ⟨_,sp',p,by rw [hTB];exact e,tp,(hk' _).1,(hk' _).2⟩
end Go.Proofs.YtiagcnfmgigllaaGreat
namespace Wm
open Go Go.Ab NumPlain
theorem q0o {a b:Nat} (ha:M7 a <= INF) (hb:M7 b < INF):∃ r,D.add a b = some r/\r < 2 ^ 64/\M7 r <= INF:=by
 have h:∃ r,D.add a b = some r:=by
  by_cases h:M7 a = INF
  ·exact ⟨_,z0m h hb⟩
  ·unfold Ieee.Format.add
   rw [d0a (by omega),d0a hb]
   exact ⟨_,rfl⟩
 obtain ⟨r,e⟩:=h
 exact ⟨r,e,v0A e⟩
theorem o0A {r:Nat} (h:M7 r <= INF):a0n r = r:=by
 unfold a0n isN
 rw [if_neg (by simp;omega)]
theorem q0s {a b r:Nat} (e:D.add a b = some r) (h:M7 r <= INF):m0d a b = r:=by
 have e':(FloatKind.format .f64).add a b = some r:=e
 unfold m0d
 rw [e']
 exact o0A h
theorem r0t {r:Nat} (h:M7 r <= INF):D.order r r = some .eq:=by
 rw [h0j h h]
 congr 1
 exact z0l .eq rfl
def c0q (n:Nat):Row:=some [⟨[120],some [⟨5,⟨2,none,n⟩⟩]⟩]
theorem b0t {n:Nat} (hc:a0n n = n):rowCopy (c0q n) = c0q n:=by
 simp [rowCopy,c0q,V5,a0H,b0B,J9,W7,a0e,M9,nz,hc,V7,J5]
theorem v0X {n:Nat} (hc:a0n n = n):Z0 (c0q n) [120] = (⟨2,none,n⟩,true):=by
 simp only [Z0,i0j,b0t hc]
 simp [c0q,a0f,S9,l0v,blt,Op.bytesLess]
theorem v0J:Z0 none [120] = (zV,false):=by
 simp [Z0,i0j,d0S,a0f,S9]
theorem F0b {r:Row} (hr:r = none \/ ∃ n,a0n n = n/\r = c0q n) {m:Nat} (hm:a0n m = m):a0i r [120] 5 ⟨2,none,m⟩ = (c0q m,0):=by
 have hcp:∀ m,a0n m = m->rowCopy (some [⟨[120],some [⟨5,⟨2,none,m⟩⟩]⟩]) = c0q m:=fun m h=>b0t h
 rcases hr with rfl | ⟨n,hc,rfl⟩
 ·simp only [a0i,d0S]
  simp [J9,V7,a0f,S9,f0O,k0T,M9,hm,hcp]
 ·simp only [a0i,b0t hc]
  simp [c0q,J9,V7,a0f,S9,f0O,k0T,M9,hm,hcp,blt,Op.bytesLess]
theorem F0Y {r:Row} {n x m:Nat} (hr:(r = none/\n = 9223372036854775808) \/ (a0n n = n/\r = c0q n)) (e:m0d n x = m) (hm:a0n m = m):apply r [⟨5,[120],5,⟨2,none,x⟩⟩] = (c0q m,0):=by
 have h1:K5 ⟨5,[120],5,⟨2,none,x⟩⟩ = 0:=by simp [K5,n0L,J9,V7]
 have h2:rowCopy r = r:=by
  rcases hr with ⟨rfl,_⟩ | ⟨h,rfl⟩
  ·exact d0S
  ·exact b0t h
 have h3:(if (Z0 r [120]).2 then (Z0 r [120]).1 else (⟨2,none,9223372036854775808⟩:Value)) = ⟨2,none,n⟩:=by
  rcases hr with ⟨rfl,rfl⟩ | ⟨h,rfl⟩
  ·rw [v0J];rfl
  ·rw [v0X h];rfl
 have h4:=F0b (r:=r) (by rcases hr with ⟨rfl,_⟩ | ⟨h,rfl⟩;exact .inl rfl;exact .inr ⟨n,h,rfl⟩) hm
 simp only [apply,oqb,oqc,List.find?_cons,List.find?_nil,h1,d0n,h2,b0p,b0m,h3]
 simp [a0h,e,h4,d0n,b0p,b0m,h2,h3]
def a0g (o:Option Nat):List Named:=match o with | some n=>[⟨[107],c0q n⟩] | none=>[]
def z0t (o:Option Nat):Nat:=match o with | some n=>n | none=>9223372036854775808
def kOk (o:Option Nat):Prop:=∀ n,o = some n->a0n n = n
theorem n0v {o:Option Nat} (h:kOk o):b0g (a0g o) [107] = (match o with | some n=>(c0q n,true) | none=>(none,false)):=by
 cases o with
 | none=>rfl
 | some n =>
  have hc:=h n rfl
  simp [b0g,a0g,tat,tix,blt,Op.bytesLess,b0t hc]
theorem h0H {o:Option Nat} (h:kOk o):TblOk (a0g o):=by
 cases o with
 | none=>exact ⟨rfl,by simp [a0g],by simp [a0g],by simp [a0g]⟩
 | some n=>exact ⟨rfl,by simp [a0g,J9],fun x hx=>by simp only [a0g,List.mem_singleton] at hx;subst hx;exact ⟨b0t (h n rfl),by simp [c0q]⟩,by simp [a0g]⟩
def kRw (o:Option Nat):Row:=match o with | some n=>c0q n | none=>none
theorem w0b {o:Option Nat} {x m:Nat} (h:kOk o) (e:m0d (z0t o) x = m) (hm:a0n m = m) (c:Cond) (hcd:c.has = false):f0v (a0g o) ⟨2,[107],[],c,some [⟨5,[120],5,⟨2,none,x⟩⟩],0⟩ = (a0g (some m),0):=by
 have hf:(b0g (a0g o) [107]).1 = kRw o:=by rw [n0v h];cases o <;> rfl
 have hch:apply (kRw o) [⟨5,[120],5,⟨2,none,x⟩⟩] = (c0q m,0):=by
  refine F0Y (n:=z0t o) ?_ e hm
  cases o with
  | none=>exact .inl ⟨rfl,rfl⟩
  | some n=>exact .inr ⟨h n rfl,rfl⟩
 have hB:V5 (c0q m) = true:=by simp [c0q,V5,a0H,b0B,J9,V7,J5]
 have hne:ls (c0q m) ≠ []:=by simp [c0q]
 have hst:i0p (a0g o) [107] (c0q m) = (a0g (some m),0):=by
  cases o with
  | none=>simp [i0p,a0g,hB,hne,J9,tat,tix,b0t hm]
  | some n=>simp [i0p,a0g,hB,hne,J9,tat,tix,blt,Op.bytesLess,b0t hm]
 unfold f0v
 simp only [hf,holds,hcd,K6,hch,Bool.not_false,Bool.true_or,Bool.true_eq_false,if_false,if_true,hst]
end Wm
namespace Go.Proofs.YtiagcnfmgigllaaGreat
open Go Go.Ab Wm NumPlain
set_option maxRecDepth 10000
set_option maxHeartbeats 4000000
theorem c0A:∀ {ts us:List TabD} {lo:BL},ts.map (·.span) = us.map (·.span)->a0X lo ts->a0X lo us
 | [],us,lo,e,h=>h.elim
 | [t],us,lo,e,h=>by
  obtain ⟨u,rfl⟩:∃ u,us = [u]:=by
   cases us with
   | nil=>simp at e
   | cons u us=>cases us with
    | nil=>exact ⟨u,rfl⟩
    | cons v w=>simp at e
  simp only [List.map_cons,List.map_nil,List.cons.injEq,and_true] at e
  have h':t.span = ⟨lo,[]⟩:=h
  show u.span = ⟨lo,[]⟩
  rw [<- e];exact h'
 | t::t2::ts,us,lo,e,h=>by
  obtain ⟨u,u2,us,rfl⟩:∃ u u2 us',us = u::u2::us':=by
   cases us with
   | nil=>simp at e
   | cons u us=>cases us with
    | nil=>simp at e
    | cons v w=>exact ⟨u,v,w,rfl⟩
  simp only [List.map_cons,List.cons.injEq] at e
  obtain ⟨e1,e2,e3⟩:=e
  obtain ⟨h1,h2,h3⟩:=h
  refine ⟨by rw [<- e1];exact h1,by rw [<- e1];exact h2, ?_⟩
  rw [<- e1]
  exact c0A (ts:=t2::ts) (us:=u2::us) (by simp [e2,e3]) h3
theorem p0b {n:BL}:∀ {l:List Pt} {o:Option Pt},(∀ y ∈ l,G9 y.t.span n = false)->b0O n o l = o
 | [],o,_=>rfl
 | y::l,o,h=>by
  simp only [b0O,h y (by simp),Bool.false_and,oqF,if_false]
  exact p0b fun z hz=>h z (by simp [hz])
theorem m0K {n:BL}:∀ {l1 l2:List Pt} {p:Pt},(∀ y ∈ l1,G9 y.t.span n = false)->G9 p.t.span n = true->(∀ y ∈ l2,G9 y.t.span n = false)->b0O n none (l1++p::l2) = some p
 | [],l2,p,_,h,h2=>by
  simp only [oql,b0O,h,Option.isNone_none,Bool.true_or,Bool.and_self,if_true]
  exact p0b h2
 | y::l1,l2,p,h1,h,h2=>by
  simp only [oqm,b0O,h1 y (by simp),Bool.false_and,oqF,if_false]
  exact m0K (fun z hz=>h1 z (by simp [hz])) h h2
structure OnI (pre post:List TabD) (l1 l2:List Pt) (p:Pt) (o:Option Nat) (n last:Int):Prop where
 I:SpI (pre++((l1++p::l2).map (·.t)++post)) (a0g o)
 has:G9 p.t.span [107] = true
 len:(l1++p::l2).length <= 16
 gen:∀ q ∈ l1++p::l2,1 <= q.t.gen/\q.t.gen <= last
 cch:∀ x ∈ p.t.cache,(x.client = 3 \/ x.client = 4)/\x.seq <= n/\(ls x.b).length <= 20000
theorem c0U {pre post:List TabD} {l1 l2:List Pt} {p:Pt} {o:Option Nat} {n last:Int} (h:OnI pre post l1 l2 p o n last):∀ y ∈ (pre++l1.map (·.t))++(l2.map (·.t)++post),G9 y.span [107] = false/\y.rows = []:=fun y hy=>by
 have I:SpI ((pre++l1.map (·.t))++p.t::(l2.map (·.t)++post)) (a0g o):=by simpa using h.I
 have h1:=t0h I.con I.ok h.has y hy
 refine ⟨h1.1, ?_⟩
 have hym:y ∈ (pre++l1.map (·.t))++p.t::(l2.map (·.t)++post):=by
  rcases oqe.1 hy with hy | hy
  ·exact oqe.2 (.inl hy)
  ·exact oqe.2 (.inr (oqf.2 (.inr hy)))
 cases hr:y.rows with
 | nil=>rfl
 | cons x r =>
  have hx:x ∈ a0g o:=by rw [<- I.rows];exact List.mem_flatMap.2 ⟨y,hym,by rw [hr];simp⟩
  have hn:x.name = [107]:=by
   cases o with
   | none=>simp [a0g] at hx
   | some m=>simp only [a0g,List.mem_singleton] at hx;rw [hx]
  have:=(I.ok y hym).inn x (by rw [hr];simp)
  rw [hn,h1.1] at this;cases this
theorem c0h {l:List TabD} (h:∀ y ∈ l,y.rows = []):l.flatMap (·.rows) = []:=by
 rw [List.flatMap_eq_nil_iff];exact h
theorem g0q {pre post:List TabD} {l1 l2:List Pt} {p:Pt} {o:Option Nat} {n last:Int} (h:OnI pre post l1 l2 p o n last):p.t.rows = a0g o:=by
 have I:SpI ((pre++l1.map (·.t))++p.t::(l2.map (·.t)++post)) (a0g o):=by simpa using h.I
 have h1:=c0U h
 have h2:=I.rows
 rw [List.flatMap_append,List.flatMap_cons,c0h fun y hy=>(h1 y (oqe.2 (.inl hy))).2,c0h fun y hy=>(h1 y (oqe.2 (.inr hy))).2] at h2
 simpa using h2
theorem x0G {pre post:List TabD} {l1 l2:List Pt} {p p':Pt} {o o':Option Nat} {n n' last:Int} (h:OnI pre post l1 l2 p o n last) (hs:p'.t.span = p.t.span) (hf:p'.t.fr = false) (hg:p'.t.gen = p.t.gen) (ho:kOk o') (hr:p'.t.rows = a0g o') (hc:CchOk p'.t.cache) (hcc:∀ x ∈ p'.t.cache,(x.client = 3 \/ x.client = 4)/\x.seq <= n'/\(ls x.b).length <= 20000):OnI pre post l1 l2 p' o' n' last:=by
 have h1:=c0U h
 refine ⟨⟨c0A (by simp [hs]) h.I.con,fun t ht=>?_, ?_,h0H ho⟩,by rw [hs];exact h.has,by have:=h.len;simpa using this,fun q hq=>?_,hcc⟩
 ·simp only [List.map_append,List.map_cons,oqh,oqm,oqe,oqf] at ht
  have old:t ∈ pre++((l1++p::l2).map (·.t)++post)->SpT t:=h.I.ok t
  rcases ht with ht | ht | ht | ht | ht
  ·exact old (by simp [ht])
  ·exact old (by simp only [List.map_append,List.map_cons,oqh,oqm,oqe,oqf];exact .inr (.inl ht))
  ·rw [ht]
   refine ⟨by rw [hs];exact (h.I.ok p.t (by simp)).sp,hf,by rw [hr];exact h0H ho,hc,fun x hx=>?_⟩
   rw [hr] at hx
   have hn:x.name = [107]:=by
    cases o' with
    | none=>simp [a0g] at hx
    | some m=>simp only [a0g,List.mem_singleton] at hx;rw [hx]
   rw [hn,hs];exact h.has
  ·exact old (by simp only [List.map_append,List.map_cons,oqh,oqm,oqe,oqf];exact .inr (.inr (.inr (.inl ht))))
  ·exact old (by simp [ht])
 ·have e:pre++((l1++p'::l2).map (·.t)++post) = (pre++l1.map (·.t))++p'.t::(l2.map (·.t)++post):=by simp
  rw [e,List.flatMap_append,List.flatMap_cons,c0h fun y hy=>(h1 y (oqe.2 (.inl hy))).2,c0h fun y hy=>(h1 y (oqe.2 (.inr hy))).2]
  simpa using hr
 ·simp only [oqe,oqf] at hq
  rcases hq with hq | hq | hq
  ·exact h.gen q (by simp [hq])
  ·rw [hq,hg];exact h.gen p (by simp)
  ·exact h.gen q (by simp [hq])
theorem j0B {pre post:List TabD} {l1 l2:List Pt} {p:Pt} {o:Option Nat} {n last:Int} (h:OnI pre post l1 l2 p o n last):b0O [107] none (l1++p::l2) = some p:=by
 have h1:=c0U h
 exact m0K (fun y hy=>(h1 y.t (by simp only [oqe,List.mem_map];exact .inl (.inr ⟨y,hy,rfl⟩))).1) h.has (fun y hy=>(h1 y.t (by simp only [oqe,List.mem_map];exact .inr (.inl ⟨y,hy,rfl⟩))).1)
theorem p0S:(b0I (noA 0)).length <= 20000:=by decide
theorem v0i {c n:Int} {b:BL} (hc:c = 3 \/ c = 4) (hn:0 <= n/\n < 1000) (hb:b.length <= 20000):a0U c (n + 1) (some b) = true:=by
 simp only [a0U,K6,oqd,oqj]
 rcases hc with rfl | rfl <;> exact ⟨by omega,by omega,by omega,by omega,by first | omega | exact decide_eq_true (by omega)⟩
theorem x0R {h:H} {s:Nat} {sp:AS} {l1 l2:List Pt} {p:Pt} {last code:Int} {pre post:List TabD} {o:Option Nat} {n:Int} (w:StAt h s sp (l1++p::l2) last code) (O:OnI pre post l1 l2 p o n last) {x m:Nat} (ho:kOk o) (e:m0d (z0t o) x = m) (hm:a0n m = m) (hx:OpIs (d0x [107] x)) (hn:0 <= n/\n < 1000) :
  ∃ h' p',W K 12 [.one (.ptr s 0 0),.one (ii 3),.one (ii (n + 1)),.agg [ii 1,ii 2,.str [107],.str [],.bool false,.bool false,.str [],ii 0,.nilslc,.flt 0,sl 6 l8 (some (g0y x)),ii 0,.str [],.str [],ii 0,.str [],ii 0,ii 0,.nilslc]] h = some (.ret (.agg (c6 (noA 0))) h') /\
   StAt h' s sp (l1++p'::l2) last code/\Fp h h' (fpS s sp (l1++p::l2)) (fpS s sp (l1++p'::l2))/\OnI pre post l1 l2 p' (some m) (n + 1) last/\(⟨3,n + 1,some (b0I (noA 0))⟩:Tld) ∈ p'.t.cache/\∀ y ∈ p'.t.cache,y.client = 4->y.seq <= n:=by
 have hpo:=O.I.ok p.t (by simp)
 have hr:=g0q O
 have hlk:a0D p.t.cache 3 (n + 1) = (none,1):=p0Z (by omega) fun y hy hyc=>by have:=(O.cch y hy).2.1;omega
 obtain ⟨h',p',e1,e2,e3,e4,e5⟩:=q0S w (by have:=O.len;omega) 3 (n + 1) 2 [107] [] false false [] 0 none 0 (some (g0y x)) 0 hx.ok (by simp) (by simp) (j0B O) O.has hpo.fr hpo.sp hpo.rows hpo.cache hlk (by omega) (by omega)
 have hmt:f0v p.t.rows ⟨2,[107],[],⟨false,false,[],⟨0,none,0⟩⟩,some (g0y x),0⟩ = (a0g (some m),0):=by rw [hr];exact w0b ho e hm _ rfl
 have hop:opT p.t.span p.t.rows ⟨2,[107],[],⟨false,false,[],⟨0,none,0⟩⟩,some (g0y x),0⟩ = (noA 0,a0g (some m)):=by
  unfold opT
  rw [if_neg (show ¬ (2:Int) = 1 by decide),if_pos (show (2:Int) = 2 from rfl),hmt]
 rw [hop] at e1 e3
 simp only [C9] at e1
 obtain ⟨k1,k2⟩:=x0y (b:=some (b0I (noA 0))) (by rw [hlk]) (v0i (.inl rfl) hn p0S)
 refine ⟨h',p',e1,e4,e5,x0G O (by rw [e3]) (by rw [e3]) (by rw [e3]) (fun k hk=>by cases hk;exact hm) (by rw [e3]) (by rw [e3];exact k0S hpo.cache _ _ _) fun y hy=>?_,by rw [e3];exact k1,fun y hy h4=>?_⟩
 ·rw [e3] at hy
  rcases l0k y hy with hy | hy
  ·have:=O.cch y hy;exact ⟨this.1,by omega,this.2.2⟩
  ·subst hy;exact ⟨.inl rfl,by simp only;omega,p0S⟩
 ·rw [e3] at hy
  rcases l0k y hy with hy | hy
  ·exact (O.cch y hy).2.1
  ·subst hy;cases h4
def l0U (m:Nat):Answer:=⟨0,some [⟨[107],c0q m⟩],⟨[],[]⟩,0,0,0,0,0,[],none⟩
theorem w0v {h:H} {s:Nat} {sp:AS} {l1 l2:List Pt} {p:Pt} {last code:Int} {pre post:List TabD} {m:Nat} {n:Int} (w:StAt h s sp (l1++p::l2) last code) (O:OnI pre post l1 l2 p (some m) (n + 1) last) (hm:a0n m = m) (h4:∀ y ∈ p.t.cache,y.client = 4->y.seq <= n) (hn:0 <= n/\n < 1000) :
  ∃ h' p',W K 12 [.one (.ptr s 0 0),.one (ii 4),.one (ii (n + 1)),.agg [ii 1,ii 1,.str [107],.str [],.bool false,.bool false,.str [],ii 0,.nilslc,.flt 0,.nilslc,ii 0,.str [],.str [],ii 0,.str [],ii 0,ii 0,.nilslc]] h = some (.ret (.agg (c6 (l0U m))) h') /\
   StAt h' s sp (l1++p'::l2) last code/\Fp h h' (fpS s sp (l1++p::l2)) (fpS s sp (l1++p'::l2))/\OnI pre post l1 l2 p' (some m) (n + 1) last:=by
 have hpo:=O.I.ok p.t (by simp)
 have hr:=g0q O
 have hlk:a0D p.t.cache 4 (n + 1) = (none,1):=p0Z (by omega) fun y hy hyc=>by have:=h4 y hy hyc;omega
 have oo:h0X ⟨1,[107],[],⟨false,false,[],⟨0,none,0⟩⟩,none,0⟩ = true:=by decide
 obtain ⟨h',p',e1,e2,e3,e4,e5⟩:=q0S w (by have:=O.len;omega) 4 (n + 1) 1 [107] [] false false [] 0 none 0 none 0 oo (by simp) (by simp) (j0B O) O.has hpo.fr hpo.sp hpo.rows hpo.cache hlk (by omega) (by omega)
 have ho:kOk (some m):=fun k hk=>by cases hk;exact hm
 have hop:opT p.t.span p.t.rows ⟨1,[107],[],⟨false,false,[],⟨0,none,0⟩⟩,none,0⟩ = (l0U m,a0g (some m)):=by
  unfold opT
  rw [if_pos (show (1:Int) = 1 from rfl),hr,n0v ho]
  rfl
 have hAl:=z0Q (sp:=p.t.span) hpo.rows hpo.sp oo O.has
 rw [hop] at e1 e3 hAl
 simp only [C9,Wm.sl_none] at e1
 refine ⟨h',p',e1,e4,e5,x0G O (by rw [e3]) (by rw [e3]) (by rw [e3]) ho (by rw [e3]) (by rw [e3];exact k0S hpo.cache _ _ _) fun y hy=>?_⟩
 rw [e3] at hy
 rcases l0k y hy with hy | hy
 ·exact O.cch y hy
 ·subst hy;exact ⟨.inr rfl,by simp only;omega,hAl⟩
theorem x0D {pre post:List TabD} {l1 l2:List Pt} {p:Pt} {o:Option Nat} {n last g:Int} {k:BL} {ps':List Pt} (O:OnI pre post l1 l2 p o n last) (S:Splt pre post l1 l2 p (a0g o) k g ps') (hg:last <= g) (hg1:1 <= g) :
  ∃ l1' p' l2',ps' = l1'++p'::l2'/\OnI pre post l1' l2' p' o n g/\p'.t.cache = p.t.cache:=by
 obtain ⟨pa,pb,rfl,tA,tB⟩:=S.is
 have hh:=O.has
 simp only [G9,oqd,Bool.or_eq_true,beq_iff_eq,Bool.not_eq_true'] at hh
 have hgen:∀ q ∈ l1++pa::pb::l2,1 <= q.t.gen/\q.t.gen <= g:=fun q hq=>by
  simp only [oqe,oqf] at hq
  rcases hq with hq | hq | hq | hq
  ·have:=O.gen q (by simp [hq]);omega
  ·rw [hq,tA];simp only [ta];omega
  ·rw [hq,tB];simp only [tb];omega
  ·have:=O.gen q (by simp [hq]);omega
 cases hk:blt [107] k with
 | true =>
  refine ⟨l1,pa,pb::l2,rfl,⟨S.I, ?_,S.len,hgen,by rw [tA];exact O.cch⟩,by rw [tA];rfl⟩
  rw [tA]
  simp only [ta,G9,hh.1,hk];simp
 | false =>
  refine ⟨l1++[pa],pb,l2,by simp,⟨by simpa using S.I, ?_,by have:=S.len;simpa using this,by simpa using hgen,by rw [tB];exact O.cch⟩,by rw [tB];rfl⟩
  rw [tB]
  simp only [tb,G9,hk]
  simp only [Bool.not_false,Bool.true_and,Bool.or_eq_true,beq_iff_eq];exact hh.2
theorem k0l (o:Option Nat):(a0g o).map J6 = a0g o:=by
 cases o with
 | none=>rfl
 | some n=>simp [a0g,J6,X0,X7,a0r,h0Q,c0q,nz]
theorem z0G {pre post:List TabD} {l1 l2:List Pt} {p q:Pt} {o:Option Nat} {n last g:Int} (O:OnI pre post l1 l2 p o n last) (ho:kOk o) (hg1:1 <= g) (hq:q.t = ⟨p.t.span,g,false,p.t.rows.map J6,p.t.cache.map V1⟩):OnI (pre++l1.map (·.t)) (l2.map (·.t)++post) [] [] q o n g:=by
 have hpo:=O.I.ok p.t (by simp)
 have hr:q.t.rows = a0g o:=by rw [hq];simp only;rw [g0q O,k0l]
 have h1:=c0U O
 have e:(pre++l1.map (·.t))++((([]:List Pt)++q::[]).map (·.t)++(l2.map (·.t)++post)) = (pre++l1.map (·.t))++q.t::(l2.map (·.t)++post):=by simp
 have I0:SpI ((pre++l1.map (·.t))++p.t::(l2.map (·.t)++post)) (a0g o):=by simpa using O.I
 refine ⟨?_,by rw [hq];exact O.has,by simp,fun y hy=>by simp at hy;subst hy;rw [hq];simp only;omega,fun y hy=>?_⟩
 ·rw [e]
  refine ⟨c0A (by simp [hq]) I0.con,fun t ht=>?_, ?_,h0H ho⟩
  ·rcases oqe.1 ht with ht | ht
   ·exact I0.ok t (oqe.2 (.inl ht))
   ·rcases oqf.1 ht with ht | ht
    ·rw [ht]
     refine ⟨by rw [hq];exact hpo.sp,by rw [hq],by rw [hr];exact h0H ho,by rw [hq];exact o0m hpo.cache,fun x hx=>?_⟩
     rw [hr] at hx
     have hn:x.name = [107]:=by
      cases o with
      | none=>simp [a0g] at hx
      | some m=>simp only [a0g,List.mem_singleton] at hx;rw [hx]
     rw [hn,hq];exact O.has
    ·exact I0.ok t (oqe.2 (.inr (oqf.2 (.inr ht))))
  ·rw [List.flatMap_append,List.flatMap_cons,c0h fun y hy=>(h1 y (oqe.2 (.inl hy))).2,c0h fun y hy=>(h1 y (oqe.2 (.inr hy))).2]
   simpa using hr
 ·rw [hq] at hy
  obtain ⟨z,hz,rfl⟩:=List.mem_map.1 hy
  have:=O.cch z hz
  simpa [V1] using this
theorem z0x {pre post:List TabD} {l1 l2 ps:List Pt} {p:Pt} {o:Option Nat} {n last:Int} (O:OnI pre post l1 l2 p o n last) (ho:kOk o) (hps:ps.map (·.t) = ((l1++p::l2).map (·.t)).map d0k) :
  ∃ l1' p' l2',ps = l1'++p'::l2'/\OnI pre post l1' l2' p' o n last/\p'.t = d0k p.t:=by
 have h1:=c0U O
 simp only [List.map_append,List.map_cons] at hps
 obtain ⟨l1',r,rfl,e1,e2⟩:=List.map_eq_append_iff.1 hps
 obtain ⟨p',l2',rfl,e3,e4⟩:=List.map_eq_cons_iff.1 e2
 have hrow:∀ (l l':List Pt),(∀ y ∈ l,y.t.rows = [])->l'.map (·.t) = (l.map (·.t)).map d0k->∀ y ∈ l'.map (·.t),y.rows = []:=fun l l' hl e y hy=>by
  rw [e] at hy
  obtain ⟨z,hz,rfl⟩:=List.mem_map.1 hy
  obtain ⟨w,hw,rfl⟩:=List.mem_map.1 hz
  simp [d0k,hl w hw]
 have hr1:=hrow l1 l1' (fun y hy=>(h1 y.t (by simp only [oqe,List.mem_map];exact .inl (.inr ⟨y,hy,rfl⟩))).2) e1
 have hr2:=hrow l2 l2' (fun y hy=>(h1 y.t (by simp only [oqe,List.mem_map];exact .inr (.inl ⟨y,hy,rfl⟩))).2) e4
 have hr:p'.t.rows = a0g o:=by rw [e3];simp only [d0k];rw [g0q O,k0l]
 have hsp:(l1'++p'::l2').map (fun y=>y.t.span) = (l1++p::l2).map (fun y=>y.t.span):=by
  have h:=congrArg (List.map (·.span)) (show (l1'++p'::l2').map (·.t) = ((l1++p::l2).map (·.t)).map d0k by simp [e1,e3,e4])
  simpa [d0k,Function.comp_def] using h
 have hold:∀ t ∈ (l1'++p'::l2').map (·.t),∃ q ∈ l1++p::l2,t = d0k q.t:=fun t ht=>by
  rw [show (l1'++p'::l2').map (·.t) = ((l1++p::l2).map (·.t)).map d0k by simp [e1,e3,e4]] at ht
  obtain ⟨z,hz,rfl⟩:=List.mem_map.1 ht
  obtain ⟨w,hw,rfl⟩:=List.mem_map.1 hz
  exact ⟨w,hw,rfl⟩
 have hlen:(l1'++p'::l2').length = (l1++p::l2).length:=by have:=congrArg List.length hsp;simpa using this
 refine ⟨l1',p',l2',rfl,⟨⟨c0A ?_ O.I.con,fun t ht=>?_, ?_,h0H ho⟩,by rw [e3];exact O.has,by rw [hlen];exact O.len,fun q hq=>?_,fun y hy=>?_⟩,e3⟩
 ·have e5:((l1++p::l2).map (·.t)).map (·.span) = ((l1'++p'::l2').map (·.t)).map (·.span):=by
   rw [List.map_map,List.map_map];exact hsp.symm
  simp only [List.map_append (f:=fun t:TabD=>t.span)]
  rw [e5]
 ·rcases oqe.1 ht with ht | ht
  ·exact O.I.ok t (oqe.2 (.inl ht))
  ·rcases oqe.1 ht with ht | ht
   ·obtain ⟨q,hq,rfl⟩:=hold t ht
    have oq:=O.I.ok q.t (oqe.2 (.inr (oqe.2 (.inl (List.mem_map.2 ⟨q,hq,rfl⟩)))))
    have hqr:q.t.rows.map J6 = q.t.rows:=by
     simp only [oqe,oqf] at hq
     rcases hq with hq | hq | hq
     ·rw [(h1 q.t (by simp only [oqe,List.mem_map];exact .inl (.inr ⟨q,hq,rfl⟩))).2];rfl
     ·rw [hq,g0q O,k0l]
     ·rw [(h1 q.t (by simp only [oqe,List.mem_map];exact .inr (.inl ⟨q,hq,rfl⟩))).2];rfl
    exact ⟨oq.sp,oq.fr,by simp only [d0k];rw [hqr];exact oq.rows,o0m oq.cache,by simp only [d0k];rw [hqr];exact oq.inn⟩
   ·exact O.I.ok t (oqe.2 (.inr (oqe.2 (.inr ht))))
 ·have e:pre++((l1'++p'::l2').map (·.t)++post) = (pre++l1'.map (·.t))++p'.t::(l2'.map (·.t)++post):=by simp
  rw [e,List.flatMap_append,List.flatMap_cons,c0h fun y hy=>?_,c0h fun y hy=>?_]
  ·simpa using hr
  ·rcases oqe.1 hy with hy | hy
   ·exact hr2 y hy
   ·exact (h1 y (oqe.2 (.inr (oqe.2 (.inr hy))))).2
  ·rcases oqe.1 hy with hy | hy
   ·exact (h1 y (oqe.2 (.inl (oqe.2 (.inl hy))))).2
   ·exact hr1 y hy
 ·obtain ⟨w,hw,e⟩:=hold q.t (List.mem_map.2 ⟨q,hq,rfl⟩)
  rw [e];exact O.gen w hw
 ·rw [e3] at hy
  obtain ⟨z,hz,rfl⟩:=List.mem_map.1 hy
  have:=O.cch z hz
  simpa [V1] using this
theorem p0c {pre post:List TabD} {R:List Named}:∀ {r a:List TabD},SpI (pre++((a++r)++post)) R->b0r (a.map (·.span)) (r.map (·.span)) = true
 | [],a,I=>rfl
 | x::r,a,I=>by
  have I2:SpI ((pre++a)++x::(r++post)) R:=by simpa using I
  have ih:=p0c (pre:=pre) (post:=post) (r:=r) (a:=a++[x]) (R:=R) (by simpa using I)
  simp only [List.map_append,List.map_cons,List.map_nil] at ih
  simp only [List.map_cons,b0r,oqd]
  refine ⟨⟨(I2.ok x (by simp)).sp, ?_⟩,ih⟩
  rw [oqn]
  intro s hs
  obtain ⟨y,hy,rfl⟩:=List.mem_map.1 hs
  cases hm:f0c x.span y.span with
  | false=>rfl
  | true =>
   simp only [f0c,oqd] at hm
   have:=(t0h I2.con I2.ok hm.2.2.1 y (by simp [hy])).1
   rw [this] at hm;exact absurd hm.2.2.2 (by simp)
theorem z0W {pre post ts:List TabD} {R:List Named} (I:SpI (pre++(ts++post)) R):∀ a y x b,ts = a++y::x::b->blt y.span.lo x.span.lo = true:=fun a y x b e=>by
 have hc:=b0G I.con I.ok
 exact f0h hc (a:=pre++(a++[y])) (x:=x) (b:=b++post) (by rw [e];simp) (by simp)
theorem A0M {pre post:List TabD} {l1 l2:List Pt} {p:Pt} {o:Option Nat} {n last:Int} (O:OnI pre post l1 l2 p o n last) (ho:kOk o) (hb:∀ m,o = some m->m < 2 ^ 64) (hl:last <= 1073741824):∀ t ∈ (l1++p::l2).map (·.t),RdOk t:=fun t ht=>by
 obtain ⟨q,hq,rfl⟩:=List.mem_map.1 ht
 have oq:=O.I.ok q.t (oqe.2 (.inr (oqe.2 (.inl ht))))
 have hg:=O.gen q hq
 have h1:=c0U O
 refine ⟨⟨oq.sp,oq.rows,oq.cache⟩,by omega,F0R oq.rows fun x hx=>?_,oq.inn⟩
 have hx2:x ∈ a0g o:=by
  simp only [oqe,oqf] at hq
  rcases hq with hq | hq | hq
  ·rw [(h1 q.t (by simp only [oqe,List.mem_map];exact .inl (.inr ⟨q,hq,rfl⟩))).2] at hx;cases hx
  ·rw [hq,g0q O] at hx;exact hx
  ·rw [(h1 q.t (by simp only [oqe,List.mem_map];exact .inr (.inl ⟨q,hq,rfl⟩))).2] at hx;cases hx
 cases o with
 | none=>simp [a0g] at hx2
 | some m =>
  simp only [a0g,List.mem_singleton] at hx2
  subst hx2
  intro c hc v hv hk
  simp only [c0q,K6,List.mem_singleton] at hc
  subst hc
  simp only [K6,List.mem_singleton] at hv
  subst hv
  exact hb m rfl
theorem w0t:∀ x:Nat,x <= 100->M7 (FloatKind.nearest .f64 x) < INF/\FloatKind.nearest .f64 x < 2 ^ 64:=by
 have h:((List.range 101).all fun x=>decide (M7 (FloatKind.nearest .f64 (x:Int)) < INF) && decide (FloatKind.nearest .f64 (x:Int) < 2 ^ 64)) = true:=by decide +kernel
 intro x hx
 have:=oqn.1 h x (by simp;omega)
 simpa using this
theorem u0C:∀ x:Nat,x <= 100->D.add 9223372036854775808 (FloatKind.nearest .f64 x) = D.add 0 (FloatKind.nearest .f64 x):=by
 have h:((List.range 101).all fun x=>decide (D.add 9223372036854775808 (FloatKind.nearest .f64 (x:Int)) = D.add 0 (FloatKind.nearest .f64 (x:Int)))) = true:=by decide +kernel
 intro x hx
 have:=oqn.1 h x (by simp;omega)
 simpa using this
end Go.Proofs.YtiagcnfmgigllaaGreat
