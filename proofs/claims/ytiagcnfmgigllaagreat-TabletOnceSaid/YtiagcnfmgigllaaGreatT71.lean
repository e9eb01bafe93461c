/- A part of a proof over the abstract machine. No conditions. -/
import Derived.Test.YtiagcnfmgigllaaGreatT65
import Derived.Test.YtiagcnfmgigllaaGreatT43
set_option linter.all false
namespace Go.Proofs.YtiagcnfmgigllaaGreat
open Go Go.Ab Wm NumPlain Go.Proofs.Tryz
set_option maxRecDepth 10000
set_option maxHeartbeats 4000000
theorem p0q:∀ {l:List Tld},J5 b0L l = true->(∀ x ∈ l,x.client = 3 \/ x.client = 4)->l.length <= 2
 | [],_,_=>by simp
 | [a],_,_=>by simp
 | [a,b],_,_=>by simp
 | a::b::c::l,h,hc=>by
  have h1:=hc a (by simp)
  have h2:=hc b (by simp)
  have h3:=hc c (by simp)
  simp only [J5,b0L,oqd,oqj] at h
  omega
theorem t0P {h:H} {s:Nat} {sp:AS} {l1 l2:List Pt} {p:Pt} {last code:Int} {pre post:List TabD} {o:Option Nat} {n:Int} (w:StAt h s sp (l1++p::l2) last code) (O:OnI pre post l1 l2 p o n last) (ho:kOk o) (hb:∀ m,o = some m->m < 2 ^ 64) (hl:0 <= last/\last + 1 <= 1073741824) :
  ∃ TB CF h1 h3 h4 h5 s2 sp2 q,W K 12 [.one (.ptr s 0 0),.one (ii 9),.one (ii 1),.agg (g0V 2 p.t.gen p.t.span.lo p.t.span.hi [])] h = some (.ret (.agg CF) h1)/\(CF.length = 11/\sub CF 0 11 = some CF/\sub CF 0 1 = some [ii 0]/\sub CF 10 1 = some [bs (some TB)]) /\
   W K 8 [.one .nilslc] (h1.new ⟨0,[11],true,CF⟩) = some (.ret (.one (.ptr s2 0 0)) h3) /\
   W K 12 [.one (.ptr s2 0 0),.one (ii 9),.one (ii 1),.agg (y0R (last + 1) p.t.span.lo p.t.span.hi (some TB))] h3 = some (.ret (.agg (c6 (noA 0))) h4) /\
   W K 12 [.one (.ptr s 0 0),.one (ii 9),.one (ii 1),.agg (g0V 4 p.t.gen p.t.span.lo p.t.span.hi [])] h4 = some (.ret (.agg (c6 (noA 0))) h5) /\
   StAt h5 s2 sp2 ([]++q::[]) (last + 1) 0/\OnI (pre++l1.map (·.t)) (l2.map (·.t)++post) [] [] q o n (last + 1)/\q.t.cache = p.t.cache.map V1 /\
   (h.next <= h1.next/\h1.next < h3.next/\h3.next <= h4.next/\h4.next <= h5.next)/\(h3.f h1.next = some ⟨0,[11],true,CF⟩/\h4.f h1.next = some ⟨0,[11],true,CF⟩) /\
   (∀ b,b < h.next->b ∉ fpS s sp (l1++p::l2)->h1.f b = h.f b/\h3.f b = h.f b/\h4.f b = h.f b/\h5.f b = h.f b)/\∀ b ∈ fpS s2 sp2 ([]++q::[]),h1.next < b:=by
 have hp:=O.I.ok p.t (by simp)
 have hgp:=O.gen p (by simp)
 obtain ⟨h1,e1,w1,g1⟩:=r0F w O.len O.I (by omega) 9 1
 obtain ⟨TB,hTB⟩:∃ TB,a0E p.t.span p.t.gen p.t.rows p.t.cache = TB:=⟨_,rfl⟩
 rw [hTB] at e1
 obtain ⟨CF,hCF⟩:∃ C,c6 (stA TB) = C:=⟨_,rfl⟩
 rw [hCF] at e1
 have hCl:CF.length = 11:=by rw [<- hCF];rfl
 obtain ⟨h3,e3,w3,k3⟩:=p0R (h1.new ⟨0,[11],true,CF⟩)
 simp only [A6] at e3 w3
 have n3:=k3.1
 simp only [A6] at n3
 have hrd:=A0M O ho hb (by omega) p.t (by simp)
 have hlen:(a0E p.t.span p.t.gen p.t.rows p.t.cache).length <= 1048576:=by
  have h1:=i0C (gen:=p.t.gen) hp.sp hp.rows hp.cache (m:=20000) fun x hx=>(O.cch x hx).2.2
  have h2:=p0q hp.cache.srt fun x hx=>(O.cch x hx).1
  have h3:(9 + 20000) * p.t.cache.length <= (9 + 20000) * 2:=Nat.mul_le_mul_left _ h2
  omega
 obtain ⟨h4,sp2,q,e4,tq,w4,g4⟩:=p0t (x:=p.t.span) w3 hp.sp (by omega) hp.rows hrd.rd hp.cache hp.inn 9 1 (g:=last + 1) (by omega) (by omega) hlen
 rw [hTB] at e4
 have n4:=g4.next
 have w1n:=w1.new ⟨0,[11],true,CF⟩
 have w13:=w1n.kept k3
 have hs2:∀ b ∈ fpS (h1.next + 1) AS.nilslc ([]:List Pt),b = h1.next + 1:=fun b hb=>by simpa [fpS,z7] using hb
 have hlt1:∀ b ∈ fpS s sp (l1++⟨p.d,{ p.t with fr:=true },p.fp⟩::l2),b < h1.next:=w1.fp_lt
 have w14:=w13.fp g4 fun b hb hc=>by have:=hs2 b hc;have:=hlt1 b hb;omega
 obtain ⟨h5,e5,n5,k5⟩:=q0M w14 O.len O.I (by omega) 9 1
 have hfq:∀ b ∈ fpS (h1.next + 1) sp2 [q],h1.next < b:=fun b hb=>by
  rcases g4.own b hb with h | h
  ·have:=hs2 b h;omega
  ·omega
 have w45:StAt h5 (h1.next + 1) sp2 [q] (last + 1) 0:=w4.keep n5 fun b hb=>k5 b (w4.fp_lt b hb) fun hc=>by have:=hlt1 b hc;have:=hfq b hb;omega
 have F3:h3.f h1.next = some ⟨0,[11],true,CF⟩:=by rw [k3.2 _ (by simp)];simp
 have F4:h4.f h1.next = some ⟨0,[11],true,CF⟩:=by rw [g4.keep _ (by omega) (fun hc=>by have:=hs2 _ hc;omega)];exact F3
 have O2:=z0G O ho (g:=last + 1) (by omega) (q:=q) tq
 refine ⟨TB,CF,h1,h3,h4,h5,h1.next + 1,sp2,q,e1,⟨hCl,L4 hCl,by rw [<- hCF];rfl,by rw [<- hCF];rfl⟩,e3,e4,e5,w45,O2,by rw [tq],⟨g1.next,by omega,n4,n5⟩,⟨F3,F4⟩,fun b hb hbn=>?_,hfq⟩
 have y1:h1.f b = h.f b:=g1.keep b hb hbn
 have hb1:=g1.next
 have y3:h3.f b = h.f b:=by rw [k3.2 b (by simp;omega),p0 (by omega),y1]
 have y4:h4.f b = h.f b:=by rw [g4.keep b (by omega) (fun hc=>by have:=hs2 b hc;omega),y3]
 have y5:h5.f b = h.f b:=by
  rw [k5 b (by omega) fun hc=>?_,y4]
  rcases g1.own b hc with h | h
  ·exact hbn h
  ·omega
 exact ⟨y1,y3,y4,y5⟩
theorem t0s {h:H} {s:Nat} {sp:AS} {l1 l2:List Pt} {p:Pt} {last code:Int} {pre post:List TabD} {o:Option Nat} {n:Int} (w:StAt h s sp (l1++p::l2) last code) (O:OnI pre post l1 l2 p o n last) (ho:kOk o) (hb:∀ m,o = some m->m < 2 ^ 64) (hl:0 <= last/\last <= 1073741824) (hc:0 <= code/\code <= 255) :
  ∃ TB h' s2 sp2 l1' q l2',W K 28 [.one (.ptr s 0 0)] h = some (.ret (.one (bs (some TB))) h)/\W K 27 [.one (bs (some TB))] h = some (.ret (.tup [(false,[.ptr s2 0 0]),(false,[.bool true])]) h') /\
   StAt h' s2 sp2 (l1'++q::l2') last code/\OnI pre post l1' l2' q o n last/\q.t.cache = p.t.cache.map V1/\Kept h h'/\∀ b ∈ fpS s2 sp2 (l1'++q::l2'),h.next <= b:=by
 have hrd:=A0M O ho hb hl.2
 have e1:=B0I w O.len fun q hq=>(hrd q.t (List.mem_map.2 ⟨q,hq,rfl⟩)).wr
 obtain ⟨h',s2,sp2,ps,e2,w2,hps,k2,f2⟩:=B0y (h:=h) (ts:=(l1++p::l2).map (·.t)) (last:=last) (code:=code) (by simp) hrd (fun t ht=>by obtain ⟨q,hq,rfl⟩:=List.mem_map.1 ht;exact (O.gen q hq).2) hl hc (by simpa using O.len) (p0c (a:=[]) (by simpa using O.I)) (z0W O.I)
 obtain ⟨l1',q,l2',rfl,O2,tq⟩:=z0x O ho hps
 exact ⟨_,h',s2,sp2,l1',q,l2',e1,e2,w2,O2,by rw [tq];rfl,k2,f2⟩
abbrev dB (l:List AS):Blk:=⟨0,[11],true,l⟩
theorem r0a {h:H} {q:Nat} (hq:q < h.next) (hf:h.f q = some (rdB (some (b0I (noA 0))))) :
  ∃ h',W K 118 [.one (.ptr q 0 0)] h = some (.ret (.agg [ii 0,.nilslc,.str [],.str [],ii 0,ii 0,ii 0,ii 0,ii 0,.str [],bs (some [])]) h')/\h'.f q = some (rdB (some []))/\h.next <= h'.next/\∀ b,b < h.next->b ≠ q->h'.f b = h.f b:=by
 have hb:b0I (noA 0) = 0::0::(L7 ⟨[],[]⟩++(0::0::0::(be 4 0++(be 4 0++(I1 []++(I1 []++[])))))):=by decide
 rw [hb] at hf
 have hqn:¬ q = h.next:=by omega
 have len:∀ n,n <= 29->n <= 1099511627776:=fun n h=>by omega
 obtain ⟨g1,e1,n1,r1,s1⟩:=M6 c0t (h:=h.new R9) (q:=q) (by simp;omega) (by rw [p0 hqn];exact hf) (by decide) (Z9 _ _)
 simp only [A6] at n1 s1
 have z1:g1.f h.next = some R9:=by rw [s1 _ (by omega) (Ne.symm hqn)];simp
 obtain ⟨D0,hD0⟩:∃ D:List AS,D = [ii 0,.nilslc,.str [],.str [],ii 0,ii 0,ii 0,ii 0,ii 0,.str [],.nilslc]:=⟨_,rfl⟩
 obtain ⟨g2,e2,n2,r2,s2⟩:=M6 c0t (h:=g1.new (dB D0)) (q:=q) (by simp;omega) (by rw [p0 (by omega)];exact r1) (by decide) (Z9 _ _)
 simp only [A6] at n2 s2
 have d2:g2.f g1.next = some (dB D0):=by rw [s2 _ (by omega) (by omega)];simp
 have z2:g2.f h.next = some R9:=by rw [s2 _ (by omega) (Ne.symm hqn),p0 (by omega)];exact z1
 obtain ⟨H1,f1,v1,w1,y1⟩:=M6 l0o (h:=g2) (q:=q) (by omega) r2 (by decide) (m0W (s:=⟨[],[]⟩) rfl _)
 obtain ⟨H2,f2,v2,w2,y2⟩:=M6 c0t (h:=H1.set g1.next (dB D0)) (q:=q) (by simp;omega) (by rw [l0,if_neg (by omega)];exact w1) (by decide) (Z9 _ _)
 simp only [b0f] at v2 y2
 obtain ⟨H3,f3,v3,w3,y3⟩:=M6 c0t (h:=H2) (q:=q) (by omega) w2 (by decide) (Z9 _ _)
 obtain ⟨H4,f4,v4,w4,y4⟩:=M6 c0t (h:=H3) (q:=q) (by omega) w3 (by decide) (Z9 _ _)
 obtain ⟨H5,f5,v5,w5,y5⟩:=M6 j0h (h:=H4.set g1.next (dB D0)) (q:=q) (by simp;omega) (by rw [l0,if_neg (by omega)];exact w4) (by decide) (c0f (k:=4) (n:=0) (by decide) _)
 simp only [b0f] at v5 y5
 obtain ⟨H6,f6,v6,w6,y6⟩:=M6 j0h (h:=H5) (q:=q) (by omega) w5 (by decide) (c0f (k:=4) (n:=0) (by decide) _)
 obtain ⟨H7,f7,v7,w7,y7⟩:=M6 (h0r 16 (by omega)) (h:=H6.set g1.next (dB D0)) (q:=q) (by simp;omega) (by rw [l0,if_neg (by omega)];exact w6) (by decide) (a0K (by decide) (by omega) _)
 simp only [b0f] at v7 y7
 obtain ⟨H8,f8,v8,w8,y8⟩:=M6 (h0r 1048576 (by omega)) (h:=H7.set g1.next (dB D0)) (q:=q) (by simp;omega) (by rw [l0,if_neg (by omega)];exact w7) (by decide) (a0K (by decide) (by omega) _)
 simp only [b0f] at v8 y8
 obtain ⟨D8,hD8⟩:∃ D:List AS,D = [ii 0,.nilslc,.str [],.str [],ii 0,ii 0,ii 0,ii 0,ii 0,.str [],bs (some [])]:=⟨_,rfl⟩
 have hR:=j0p 0 none [] [] 0 0 0 0 0 [] (some []) rfl (by simp)
 simp only [Wm.sl_none] at hR
 have D1:H1.f g1.next = some (dB D0):=by rw [y1 _ (by omega) (by omega)];exact d2
 have D4:H4.f g1.next = some (dB D0):=by rw [y4 _ (by omega) (by omega),y3 _ (by omega) (by omega),y2 _ (by omega) (by omega)];simp
 have D6:H6.f g1.next = some (dB D0):=by rw [y6 _ (by omega) (by omega),y5 _ (by omega) (by omega)];simp
 have D7:H7.f g1.next = some (dB D0):=by rw [y7 _ (by omega) (by omega)];simp
 have D8':H8.f g1.next = some (dB D0):=by rw [y8 _ (by omega) (by omega)];simp
 have fr:∀ b,b < h.next + 1->b ≠ q->H8.f b = g2.f b:=fun b hb hbq=>by
  rw [y8 b (by omega) hbq,l0,if_neg (by omega),y7 b (by omega) hbq,l0,if_neg (by omega),y6 b (by omega) hbq,y5 b (by omega) hbq,l0,if_neg (by omega),y4 b (by omega) hbq,y3 b (by omega) hbq,y2 b (by omega) hbq,l0,if_neg (by omega),y1 b (by omega) hbq]
 have Z8:H8.f h.next = some R9:=by rw [fr _ (by omega) (Ne.symm hqn)];exact z2
 have f7':W K 164 [.one (.ptr q 0 0),.one (.int .i64 16)] (H6.set g1.next (dB D0)) = some (.ret (.one (bs (some []))) H7):=f7
 have f8':W K 164 [.one (.ptr q 0 0),.one (.int .i64 1048576)] (H7.set g1.next (dB D0)) = some (.ret (.one (bs (some []))) H8):=f8
 have b0:F7 0 = .int .u8 0:=rfl
 have c0:IntKind.i64.wrap 0 = 0:=by decide
 rw [b0] at e1 e2 f2 f3 f4
 simp only [I5] at f1
 have f5':W K 94 [.one (.ptr q 0 0)] (H4.set g1.next (dB D0)) = some (.ret (.one (.int .u32 0)) H5):=f5
 have f6':W K 94 [.one (.ptr q 0 0)] H5 = some (.ret (.one (.int .u32 0)) H6):=f6
 have m1:¬ h.next = g1.next:=by omega
 have m2:¬ g1.next = h.next:=by omega
 simp only [dB] at e2 D1 D4 D6 D7 D8' f2 f5' f7' f8' d2
 obtain ⟨P,hP⟩:∃ P:CR->Prop,P = fun r=>∃ h',r = .ret (.agg [ii 0,.nilslc,.str [],.str [],ii 0,ii 0,ii 0,ii 0,ii 0,.str [],bs (some [])]) h'/\h'.f q = some (rdB (some []))/\h.next <= h'.next/\∀ b,b < h.next->b ≠ q->h'.f b = h.f b:=⟨_,rfl⟩
 suffices hh:∃ r,W K 118 [.one (.ptr q 0 0)] h = some r/\P r by
  obtain ⟨r,e,hx⟩:=hh
  rw [hP] at hx
  obtain ⟨h',rfl,hx⟩:=hx
  exact ⟨h',e,hx⟩
 rw [hD0] at e2 D1 D4 D6 D7 D8' f2 f5' f7' f8' d2
 refine zzE func118 rfl ?_
 simp only [f118]
 intro Q1 Y1
 repeat' (first
  | (replace Y1:=Y1;simp [e1,G0P,c0,e2])
  | refine Y1 _ _ _ ?_
  | (first | apply cF | apply wN | apply wS) <;> intro Ya <;> (try simp only [Ya]) <;> (try simp [-List.isEmpty_iff,-List.isEmpty_eq_false_iff] at Ya))
 refine S0 hp 0 (fun i fr hh=>hh = g2/\∃ j:Nat->AV,fr = ((.one (.ptr q 0 0))::j 1::(.one (.ptr h.next 0 0))::(.one (.ptr g1.next 0 0))::(.one (.int .u8 0))::j 5::j 6::j 7::j 8::j 9::j 10::j 11::j 12::j 13::j 14::j 15::j 16::j 17::j 18::j 19::j 20::j 21::j 22::j 23::j 24::j 25::j 26::j 27::j 28::j 29::j 30::j 31::j 32::j 33::j 34::j 35::j 36::j 37::j 38::j 39::j 40::j 41::j 42::j 43::j 44::j 45::j 46::j 47::j 48::j 49::j 50::j 51::j 52::j 53::j 54::j 55::j 56::j 57::j 58::j 59::j 60::j 61::j 62::j 63::j 64::[])) ?_ ?_ _ _ ?_
 rotate_left 2
 ·exact ⟨rfl,y0 (by simp)⟩
 ·intro i fr hh hi;omega
 ·rintro fr hh ⟨rfl,j,rfl⟩
  first | (refine s9 ?_;intro Q2 Y2) | have Y2:=oqk
  repeat' (first
   | (replace Y2:=Y2;simp [f1,D1,f2,B0q,c0,f3,f4,D4,f5',C0g,f6',D6,f7',b0J,D7,f8',D8',hR,Z8,m1,m2])
   | (refine Y2 _ _ _ ?_;clear Y2 Q2;first | simp only [] | simp [f1,D1,f2,B0q,c0,f3,f4,D4,f5',C0g,f6',D6,f7',b0J,D7,f8',D8',hR,Z8,m1,m2] | skip)
   | (refine F6 (by assumption) ?_;(try clear Y2);first | simp only [] | simp [f1,D1,f2,B0q,c0,f3,f4,D4,f5',C0g,f6',D6,f7',b0J,D7,f8',D8',hR,Z8,m1,m2] | skip)
   | ((fail_if_success replace Y2:=Y2);(first | refine s9 ?_ | refine A1 ?_ | refine A4 ?_);intro Q2 Y2)
   | (first | apply cF | apply wN | apply wS) <;> intro Ya <;> (try simp only [Ya]) <;> (try simp [-List.isEmpty_iff,-List.isEmpty_eq_false_iff] at Ya))
  rw [hP]
  refine ⟨_,rfl, ?_,by simp;omega,fun b hb hbq=>?_⟩
  ·rw [l0,if_neg hqn,l0,if_neg (by omega)];exact w8
  ·rw [l0,if_neg (by omega),l0,if_neg (by omega),fr b (by omega) hbq,s2 b (by omega) hbq,p0 (by omega),s1 b (by omega) hbq,p0 (by omega)]
theorem u0u (h:H):W K 74 [.one (bs (some (b0I (noA 0))))] h = some (.ret (.tup [(true,c6 (g0T (noA 0))),(false,[ii 0])]) h):=by
 obtain ⟨h',e,w4,w5,w6⟩:=r0a (h:=rdH hA (some (b0I (noA 0)))) (q:=3) (by simp) (by simp [L8])
 obtain ⟨B,hB⟩:∃ B,b0I (noA 0) = B:=⟨_,rfl⟩
 rw [hB] at e w5 w6 |-
 have f0:h'.f 0 = some R9:=by rw [w6 0 (by simp) (by omega)];simp [L8]
 have f1:h'.f 1 = some R9:=by rw [w6 1 (by simp) (by omega)];simp [L8]
 have f2:h'.f 2 = some ⟨0,[1],true,[.bool false]⟩:=by rw [w6 2 (by simp) (by omega)];simp [L8]
 have f4:h'.f 4 = some ⟨0,[1],true,[.ptr 3 0 0]⟩:=by rw [w6 4 (by simp) (by omega)];simp [L8]
 obtain ⟨CA,hCA⟩:∃ C:List AS,[ii 0,.nilslc,.str [],.str [],ii 0,ii 0,ii 0,ii 0,ii 0,.str [],bs (some [])] = C:=⟨_,rfl⟩
 have hlA:CA.length = 11:=by rw [<- hCA];rfl
 have hsA:sub CA 0 11 = some CA:=L4 hlA
 rw [hCA] at e
 have hc:W K 117 [.one (.ptr 3 0 0),.one (.ptr 1 0 0)] (rdH hA (some B)) = some (.ret (.tup []) (h'.set 1 ⟨0,[11],true,CA⟩)):=by
  generalize rdH hA (some B) = H0 at *
  refine zzD func117 rfl ?_
  simp only [f117]
  intro Q3 Y3
  repeat' (first
   | (replace Y3:=Y3;simp [-lay,J2,e,f1,hlA])
   | refine Y3 _ _ _ ?_)
 have hr:=k0g (h:=hA) (o:=some B) (g:=117) (caps:=[.ptr 1 0 0]) hc (l:=some []) (by simp [f2]) (by simpa using w4) (by simpa using f4)
 simp only [K6,oqc,decide_true,A6,k0b,Nat.zero_add] at hr
 have n5:5 <= h'.next:=by simpa using w5
 have hfz:∀ hh:H,CA.mapM (z9 false hh 64) = some (c6 (g0T (noA 0))):=fun hh=>by rw [<- hCA];exact o0H (n:=63) (by simp [v9,c7,g0Z])
 refine zzP (hv:=by simp [M5,-lay,J2,hr,f0,f1,hlA,hsA,hfz,A7,A0,z9,A5,L9,c7,v9,u9]) func74 rfl ?_
 simp only [f74]
 intro Yb Q4 Y4
 repeat' (first
  | (replace Y4:=Y4;simp [-lay,J2,hr,f0,f1,hlA,hsA,hfz,A7,A0,z9,A5,L9,c7,v9,u9,Yb])
  | refine Y4 _ _ _ ?_
  | (first | apply cF | apply wN | apply wS) <;> intro Ya <;> (try simp only [Ya]) <;> (try simp [-List.isEmpty_iff,-List.isEmpty_eq_false_iff] at Ya))
theorem u0H {h:H} {s:Nat} {sp:AS} {l1 l2:List Pt} {p:Pt} {last code:Int} (w:StAt h s sp (l1++p::l2) last code) (hn:(l1++p::l2).length < 1000) (client seq:Int) (C7:Int) (D5:BL) (L3:BL) (r9:Bool) (l9:Bool) (s8:BL) (c9:Int) (p4:Option BL) (s7:Nat) (o_l:Option (List Change)) (C5:Int) (oo:h0X ⟨C7,D5,L3,⟨r9,l9,s8,⟨c9,p4,s7⟩⟩,o_l,C5⟩ = true) (ol:(ls o_l).length < 9223372036854775807)
  (hf:b0O D5 none (l1++p::l2) = some p) (okc:CchOk p.t.cache) (hlk:a0D p.t.cache client seq = (some (b0I (noA 0)),2)) :
  ∃ h',W K 12 [.one (.ptr s 0 0),.one (ii client),.one (ii seq),.agg [ii 1,ii C7,.str D5,.str L3,.bool r9,.bool l9,.str s8,ii c9,bs p4,.flt s7,sl 6 l8 o_l,ii C5,.str [],.str [],ii 0,.str [],ii 0,ii 0,.nilslc]] h = some (.ret (.agg (c6 (g0T (noA 0)))) h')/\Kept h h':=by
 obtain ⟨B,hB⟩:∃ B:Blk,B = ⟨0,[19],true,[ii 1,ii C7,.str D5,.str L3,.bool r9,.bool l9,.str s8,ii c9,bs p4,.flt s7,sl 6 l8 o_l,ii C5,.str [],.str [],ii 0,.str [],ii 0,ii 0,.nilslc]⟩:=⟨_,rfl⟩
 obtain ⟨a1,a2,a3⟩:=w.at
 obtain ⟨pr,pc,qr,qc,t1,t2,t3,t4,t5⟩:=a1
 have w4:=((((w.new B).new R9).new ⟨0,[11],true,[ii C7,.str D5,.str L3,.bool r9,.bool l9,.str s8,ii c9,bs p4,.flt s7,sl 6 l8 o_l,ii C5]⟩).new R9)
 have e1:=o0l w4 (by omega) D5
 rw [hf] at e1
 simp only [i0X] at e1
 have e2:=o0j ((((t4.new B).new R9).new ⟨0,[11],true,[ii C7,.str D5,.str L3,.bool r9,.bool l9,.str s8,ii c9,bs p4,.flt s7,sl 6 l8 o_l,ii C5]⟩).new R9) okc client seq
 rw [hlk] at e2
 have d2:((h.new B).new R9).f p.d = some (Y0 p.t.span p.t.gen p.t.fr (.ptr pr 0 0) (.ptr pc 0 0)):=by rw [p0 (by simp;omega),p0 (by omega)];exact t2
 have e3:=u0u
 obtain ⟨C,hC⟩:∃ C,c6 (g0T (noA 0)) = C:=⟨_,rfl⟩
 have hCl:C.length = 11:=by rw [<- hC];rfl
 have hCs:sub C 0 11 = some C:=L4 hCl
 rw [hC] at e3
 generalize some (b0I (noA 0)) = X at *
 obtain ⟨h2,hh2⟩:∃ h2,(h.new B).new R9 = h2:=⟨_,rfl⟩
 have n2:h2.next = h.next + 1 + 1:=by rw [<- hh2];simp
 have eo:W K 39 [.one (.ptr s 0 0),.one (ii client),.one (ii seq),.agg [ii C7,.str D5,.str L3,.bool r9,.bool l9,.str s8,ii c9,bs p4,.flt s7,sl 6 l8 o_l,ii C5]] ((h.new B).new R9) = some (.ret (.agg C) ((((((h.new B).new R9).new ⟨0,[11],true,[ii C7,.str D5,.str L3,.bool r9,.bool l9,.str s8,ii c9,bs p4,.flt s7,sl 6 l8 o_l,ii C5]⟩).new ⟨0,[11],true,C⟩).new ⟨0,[11],true,C⟩))):=by
  rw [hh2] at e1 e2 d2 |-
  simp only [Y0] at d2
  have hsw:∀ k:Blk,((((h2.new ⟨0,[11],true,[ii C7,.str D5,.str L3,.bool r9,.bool l9,.str s8,ii c9,bs p4,.flt s7,sl 6 l8 o_l,ii C5]⟩).new R9).new k).set (h2.next + 1) k) = ((h2.new ⟨0,[11],true,[ii C7,.str D5,.str L3,.bool r9,.bool l9,.str s8,ii c9,bs p4,.flt s7,sl 6 l8 o_l,ii C5]⟩).new k).new k:=fun k=>by
   have hne:¬ h2.next = h2.next + 1:=by omega
   simp only [H.new,H.set]
   congr 1
   funext x
   by_cases hx:x = h2.next + 1
   ·subst hx;simp
   ·simp [hx]
  have m0:¬ p.d = h2.next:=by omega
  have m1:¬ p.d = h2.next + 1:=by omega
  refine zzD func39 rfl ?_
  simp only [f39]
  intro Q5 Y5
  repeat' (first
   | (replace Y5:=Y5;simp [-lay,L5,L6,O6,J2,hCl,hCs,w0J,C0B,e1,d2,m0,m1,e2,e3,T8,i0o,hsw])
   | refine Y5 _ _ _ ?_
   | (first | apply cF | apply wN | apply wS) <;> intro Ya <;> (try simp only [Ya]) <;> (try simp [-List.isEmpty_iff,-List.isEmpty_eq_false_iff] at Ya))
 rw [hB] at eo
 rw [<- hC] at eo
 have e:=s0o (B7:=1) client seq C7 D5 L3 r9 l9 s8 c9 p4 s7 o_l C5 [] [] 0 [] 0 0 none rfl (by simp only [c0j,if_true];exact oo) ol (by simpa only [C9] using eo) (by simp [L8])
 simp only [C9] at e
 exact ⟨_,e,u0v _ _ _ _ _ _ _⟩
theorem r0j {h:H} {s:Nat} {sp:AS} {l1 l2:List Pt} {p:Pt} {last code:Int} {pre post:List TabD} {o:Option Nat} {n:Int} (w:StAt h s sp (l1++p::l2) last code) (O:OnI pre post l1 l2 p o (n + 1) last) (hm:(⟨3,n + 1,some (b0I (noA 0))⟩:Tld) ∈ p.t.cache) {x:Nat} (hx:OpIs (d0x [107] x)) (hn:0 <= n/\n < 1000) :
  ∃ h',W K 12 [.one (.ptr s 0 0),.one (ii 3),.one (ii (n + 1)),.agg [ii 1,ii 2,.str [107],.str [],.bool false,.bool false,.str [],ii 0,.nilslc,.flt 0,sl 6 l8 (some (g0y x)),ii 0,.str [],.str [],ii 0,.str [],ii 0,ii 0,.nilslc]] h = some (.ret (.agg (c6 (g0T (noA 0)))) h')/\Kept h h':=by
 have hpo:=O.I.ok p.t (by simp)
 have:=u0H w (by have:=O.len;omega) 3 (n + 1) 2 [107] [] false false [] 0 none 0 (some (g0y x)) 0 hx.ok (by simp) (j0B O) hpo.cache (r0V hpo.cache (by omega) hm)
 simpa only [C9] using this
theorem t0V {l:List Tld} (ok:CchOk l) {c s s':Int} {b:Option BL} (hs:s < s') (hx:(⟨c,s',b⟩:Tld) ∈ l):a0D l c s = (none,3):=by
 obtain ⟨h1,h2,h3⟩:=s0V ok hx
 unfold a0D
 dsimp only
 rw [List.getElem?_eq_getElem h2,h3,Option.getD_some,if_pos (.inr ⟨h1,hs⟩)]
theorem x0M {h:H} {s:Nat} {sp:AS} {l1 l2:List Pt} {p:Pt} {last code:Int} {pre post:List TabD} {o:Option Nat} {n:Int} (w:StAt h s sp (l1++p::l2) last code) (O:OnI pre post l1 l2 p o (n + 1) last) (hm:(⟨3,n + 1,some (b0I (noA 0))⟩:Tld) ∈ p.t.cache) {x:Nat} (hx:OpIs (d0x [107] x)) (hn:0 <= n/\n < 1000) :
  ∃ h',W K 12 [.one (.ptr s 0 0),.one (ii 3),.one (ii n),.agg [ii 1,ii 2,.str [107],.str [],.bool false,.bool false,.str [],ii 0,.nilslc,.flt 0,sl 6 l8 (some (g0y x)),ii 0,.str [],.str [],ii 0,.str [],ii 0,ii 0,.nilslc]] h = some (.ret (.agg (c6 (noA 27))) h')/\Kept h h':=by
 have hpo:=O.I.ok p.t (by simp)
 have:=C0T w (by have:=O.len;omega) 3 n 2 [107] [] false false [] 0 none 0 (some (g0y x)) 0 hx.ok (by simp) (j0B O) hpo.cache (t0V hpo.cache (by omega) hm)
 simpa only [C9] using this
structure Turn (h:H) (s:Nat) (o:Option Nat) (i:Nat) (S:Nat):Prop where
 ex:∃ sp pre post l1 p l2 last code,StAt h s sp (l1++p::l2) last code/\OnI pre post l1 l2 p o i last/\(1 <= last/\last <= i + 1)/\(0 <= code/\code <= 255)
 ko:kOk o
 kb:∀ m,o = some m->m < 2 ^ 64
 ks:(o = none/\S = 0/\i = 0) \/ (o = some S/\M7 S <= INF)
theorem w0h {o:Option Nat} {i S x:Nat} (ho:(o = none/\S = 0/\i = 0) \/ (o = some S/\M7 S <= INF)) (hx:x <= 100):∃ m,D.add S (FloatKind.nearest .f64 x) = some m/\m0d (z0t o) (FloatKind.nearest .f64 x) = m/\a0n m = m/\M7 m <= INF/\m < 2 ^ 64:=by
 obtain ⟨f1,f2⟩:=w0t x hx
 rcases ho with ⟨rfl,rfl,rfl⟩ | ⟨rfl,hr⟩
 ·obtain ⟨m,e,h1,h2⟩:=q0o (a:=0) (b:=FloatKind.nearest .f64 x) (by decide) f1
  exact ⟨m,e,q0s (by rw [<- e];exact u0C x hx) h2,o0A h2,h2,h1⟩
 ·obtain ⟨m,e,h1,h2⟩:=q0o (a:=S) (b:=FloatKind.nearest .f64 x) hr f1
  exact ⟨m,e,q0s e h2,o0A h2,h2,h1⟩
theorem OnI.le {pre post:List TabD} {l1 l2:List Pt} {p:Pt} {o:Option Nat} {n last last':Int} (O:OnI pre post l1 l2 p o n last) (h:last <= last'):OnI pre post l1 l2 p o n last' :=
 ⟨O.I,O.has,O.len,fun q hq=>by have:=O.gen q hq;omega,O.cch⟩
theorem q0O {h:H} {s:Nat} {sp:AS} {l1 l2:List Pt} {p:Pt} {last code:Int} {pre post:List TabD} {o:Option Nat} {n:Int} (w:StAt h s sp (l1++p::l2) last code) (O:OnI pre post l1 l2 p o n last) (hl:1 <= last/\last + 1 <= 1073741824) (hc:0 <= code/\code <= 255) (k:BL) :
  ∃ h' sp' l1' q l2' last' code' C,W K 12 [.one (.ptr s 0 0),.one (ii 9),.one (ii 1),.agg (g0V 5 (last + 1) p.t.span.lo p.t.span.hi k)] h = some (.ret (.agg (c6 C)) h')/\StAt h' s sp' (l1'++q::l2') last' code'/\OnI pre post l1' l2' q o n last'/\(last' = last \/ last' = last + 1)/\(0 <= code'/\code' <= 255)/\q.t.cache = p.t.cache /\
   Fp h h' (fpS s sp (l1++p::l2)) (fpS s sp' (l1'++q::l2')):=by
 obtain ⟨h',sp',ps',last',code',C,e,w',g,e1,e2,e3⟩:=n0T w O.len O.I 9 1 k (g:=last + 1) (by omega) (by omega) hc
 rcases e3 with rfl | ⟨rfl,S⟩
 ·exact ⟨h',sp',l1,p,l2,last',code',C,e,w',O.le (by omega),e1,e2,rfl,g⟩
 ·obtain ⟨l1',q,l2',rfl,O2,ec⟩:=x0D O S (by omega) (by omega)
  exact ⟨h',sp',l1',q,l2',last + 1,code',C,e,w',O2,.inr rfl,e2,ec,g⟩
theorem g0l {h:H} {s:Nat} {sp:AS} {l1 l2:List Pt} {p:Pt} {last code:Int} {pre post:List TabD} {m i:Nat} (w:StAt h s sp (l1++p::l2) last code) (O:OnI pre post l1 l2 p (some m) ((i:Int) + 1) last) (hl:1 <= last/\last <= (i:Int) + 2) (hc:0 <= code/\code <= 255) (hm:a0n m = m) (hm2:M7 m <= INF) (hm3:m < 2 ^ 64)
  (ht:(⟨3,(i:Int) + 1,some (b0I (noA 0))⟩:Tld) ∈ p.t.cache) (h4:∀ y ∈ p.t.cache,y.client = 4->y.seq <= (i:Int)) {x:Nat} (hx:OpIs (d0x [107] x)) (hi:i < 20) {X:List AS}
  (hX:[ii 1,ii 2,.str [107],.str [],.bool false,.bool false,.str [],ii 0,.nilslc,.flt 0,sl 6 l8 (some (g0y x)),ii 0,.str [],.str [],ii 0,.str [],ii 0,ii 0,.nilslc] = X) {t9 t10:Nat} {k9 k10:Blk} (f9:h.f t9 = some k9) (f10:h.f t10 = some k10) (b9:t9 < h.next) (b10:t10 < h.next) :
  ∃ hb ho hg hb1 ho1 hg1,W K 12 [.one (.ptr s 0 0),.one (ii 3),.one (ii ((i:Int) + 1)),.agg X] h = some (.ret (.agg (c6 (g0T (noA 0)))) hb)/\hb.new ⟨0,[11],true,c6 (g0T (noA 0))⟩ = hb1/\hb1.f t9 = some k9 /\
   W K 12 [.one (.ptr s 0 0),.one (ii 3),.one (ii (i:Int)),.agg X] hb1 = some (.ret (.agg (c6 (noA 27))) ho)/\ho.new ⟨0,[11],true,c6 (noA 27)⟩ = ho1/\(ho1.f t10 = some k10/\ho1.f hb.next = some ⟨0,[11],true,c6 (g0T (noA 0))⟩/\ho1.f ho.next = some ⟨0,[11],true,c6 (noA 27)⟩) /\
   W K 12 [.one (.ptr s 0 0),.one (ii 4),.one (ii ((i:Int) + 1)),.agg [ii 1,ii 1,.str [107],.str [],.bool false,.bool false,.str [],ii 0,.nilslc,.flt 0,.nilslc,ii 0,.str [],.str [],ii 0,.str [],ii 0,ii 0,.nilslc]] ho1 = some (.ret (.agg (c6 (l0U m))) hg)/\hg.new ⟨0,[11],true,c6 (l0U m)⟩ = hg1/\hg1.f hg.next = some ⟨0,[11],true,c6 (l0U m)⟩ /\
   Turn hg1 s (some m) (i + 1) m:=by
 obtain ⟨hb,e1,k1⟩:=r0j w O ht hx (by omega)
 obtain ⟨hb1,d1⟩:∃ y,hb.new ⟨0,[11],true,c6 (g0T (noA 0))⟩ = y:=⟨_,rfl⟩
 have w1:=(w.kept k1).new ⟨0,[11],true,c6 (g0T (noA 0))⟩
 have n1:=k1.1
 have p9:hb1.f t9 = some k9:=by rw [<- d1,p0 (by omega),k1.2 _ b9,f9]
 have p10:hb1.f t10 = some k10:=by rw [<- d1,p0 (by omega),k1.2 _ b10,f10]
 have pb:hb1.f hb.next = some ⟨0,[11],true,c6 (g0T (noA 0))⟩:=by rw [<- d1];simp
 have nb:hb1.next = hb.next + 1:=by rw [<- d1];rfl
 rw [d1] at w1
 obtain ⟨ho,e2,k2⟩:=x0M w1 O ht hx (by omega)
 have n2:=k2.1
 obtain ⟨ho1,d2⟩:∃ y,ho.new ⟨0,[11],true,c6 (noA 27)⟩ = y:=⟨_,rfl⟩
 have w2:=(w1.kept k2).new ⟨0,[11],true,c6 (noA 27)⟩
 rw [d2] at w2
 obtain ⟨hg,p',e3,w3,g3,O3⟩:=w0v w2 O hm h4 (by omega)
 obtain ⟨hg1,d3⟩:∃ y,hg.new ⟨0,[11],true,c6 (l0U m)⟩ = y:=⟨_,rfl⟩
 have w4:=w3.new ⟨0,[11],true,c6 (l0U m)⟩
 rw [d3] at w4
 rw [hX] at e1 e2
 refine ⟨hb,ho,hg,hb1,ho1,hg1,e1,d1,p9,e2,d2,⟨?_, ?_, ?_⟩,e3,d3,by rw [<- d3];simp,⟨⟨sp,pre,post,l1,p',l2,last,code,w4, ?_,⟨hl.1,by omega⟩,hc⟩,fun k hk=>by cases hk;exact hm,fun k hk=>by cases hk;exact hm3,.inr ⟨rfl,hm2⟩⟩⟩
 ·rw [<- d2,p0 (by omega),k2.2 _ (by omega),p10]
 ·rw [<- d2,p0 (by omega),k2.2 _ (by omega),pb]
 ·rw [<- d2];simp
 ·have e:(((i + 1:Nat)):Int) = (i:Int) + 1:=by omega
  rw [e];exact O3
theorem x0J (h:H):W K 11 [.agg (c6 (noA 0)),.agg (c6 (g0T (noA 0)))] h = some (.ret (.one (.bool true)) h):=by
 show W K 11 [.agg [ii 0,.nilslc,.str [],.str [],ii 0,ii 0,ii 0,ii 0,ii 0,.str [],.nilslc],.agg [ii 0,.nilslc,.str [],.str [],ii 0,ii 0,ii 0,ii 0,ii 0,.str [],bs (some [])]] h = _
 have hc:=s0H [] [] [] []
 simp only [decide_true,Bool.and_self,Bool.not_true] at hc
 have c1:=b0J none
 have c2:=b0J (some [])
 rw [C9] at c1
 refine zzP (hv:=by simp [M5,c1,c2,O7,hc,A7,A0,z9,A5,L9,c7,v9,u9]) func11 rfl ?_
 simp only [f11]
 intro Yb Q1 Y1
 repeat' (first
  | (replace Y1:=Y1;simp [c1,c2,O7,hc,A7,A0,z9,A5,L9,c7,v9,u9,Yb])
  | refine Y1 _ _ _ ?_
  | refine dF (id:=6) t0E [] ?_
  | (first | apply cF | apply wN | apply wS) <;> intro Ya <;> (try simp only [Ya]) <;> (try simp [-List.isEmpty_iff,-List.isEmpty_eq_false_iff] at Ya))
 refine S0 hp 0 (fun i fr hh=>(2 <= hh.next/\hh.f 0 = some ⟨0,[11],true,[ii 0,.nilslc,.str [],.str [],ii 0,ii 0,ii 0,ii 0,ii 0,.str [],.nilslc]⟩)/\∃ j:Nat->AV,fr = (j 0::j 1::(.one (.ptr 0 0 0))::j 3::j 4::(.one (ii 0))::j 6::j 7::j 8::j 9::j 10::j 11::j 12::j 13::j 14::j 15::j 16::j 17::j 18::j 19::j 20::j 21::j 22::j 23::j 24::j 25::j 26::j 27::j 28::j 29::j 30::j 31::j 32::j 33::j 34::j 35::j 36::j 37::j 38::j 39::j 40::j 41::j 42::j 43::j 44::j 45::j 46::j 47::j 48::j 49::j 50::j 51::j 52::j 53::j 54::j 55::j 56::j 57::j 58::j 59::j 60::j 61::j 62::j 63::j 64::j 65::j 66::j 67::j 68::j 69::j 70::j 71::j 72::j 73::j 74::j 75::j 76::j 77::j 78::j 79::j 80::j 81::j 82::j 83::j 84::j 85::j 86::j 87::j 88::j 89::j 90::j 91::j 92::j 93::j 94::j 95::j 96::j 97::j 98::j 99::j 100::j 101::j 102::j 103::j 104::j 105::j 106::j 107::j 108::j 109::j 110::j 111::j 112::j 113::[])) ?_ ?_ _ _ ?_
 rotate_left 2
 ·exact ⟨⟨by simp,by simp⟩,y0 (by simp)⟩
 ·intro i fr hh hi;omega
 ·rintro fr hh ⟨⟨i0,i1⟩,j,rfl⟩
  first | (refine s9 ?_;intro Q2 Y2) | have Y2:=oqk
  repeat' (first
   | (replace Y2:=Y2;simp [i1,A7,A0,z9,A5,L9,c7,v9,u9,Yb])
   | (refine Y2 _ _ _ ?_;clear Y2 Q2;first | simp only [] | simp [i1,A7,A0,z9,A5,L9,c7,v9,u9,Yb] | skip)
   | (refine F6 (by assumption) ?_;(try clear Y2);first | simp only [] | simp [i1,A7,A0,z9,A5,L9,c7,v9,u9,Yb] | skip)
   | ((fail_if_success replace Y2:=Y2);(first | refine s9 ?_ | refine A1 ?_ | refine A4 ?_);intro Q2 Y2)
   | refine dF (id:=6) t0E [] ?_
   | (first | apply cF | apply wN | apply wS) <;> intro Ya <;> (try simp only [Ya]) <;> (try simp [-List.isEmpty_iff,-List.isEmpty_eq_false_iff] at Ya))
theorem u0J (m:Nat):∃ ZN CN ZC CC ZV CV,sub (c6 (l0U m)) 1 1 = some [ZN]/\(∀ (u:TypeId) (h':H),V9 ZN (some (.slice u)) h' = some (one (ii 1) h'))/\U7 prog 48 ZN 0 = some (.rp CN 0)/\sub CN 1 1 = some [ZC] /\
  (∀ (u:TypeId) (h':H),V9 ZC (some (.slice u)) h' = some (one (ii 1) h'))/\U7 prog 79 ZC 0 = some (.rp CC 0)/\sub CC 1 1 = some [ZV]/\(∀ (u:TypeId) (h':H),V9 ZV (some (.slice u)) h' = some (one (ii 1) h'))/\U7 prog 89 ZV 0 = some (.rp CV 0)/\sub CV 3 1 = some [.flt m]:=by
 have a1:=N6 (P:=prog) (enc:=g9) (s:=2) (l:=[⟨[107],c0q m⟩]) (i:=0) underlying48 (by simp) (by omega) (by simp)
 have a2:=N6 (P:=prog) (enc:=l7) (s:=2) (l:=[⟨[120],some [⟨5,⟨2,none,m⟩⟩]⟩]) (i:=0) underlying79 (by simp) (by omega) (by simp)
 have a3:=N6 (P:=prog) (enc:=i9) (s:=4) (l:=[⟨5,⟨2,none,m⟩⟩]) (i:=0) underlying89 (by simp) (by omega) (by simp)
 exact ⟨_,_,_,_,_,_,rfl,fun _ _=>rfl,a1,rfl,fun _ _=>rfl,a2,rfl,fun _ _=>rfl,a3,rfl⟩
end Go.Proofs.YtiagcnfmgigllaaGreat
