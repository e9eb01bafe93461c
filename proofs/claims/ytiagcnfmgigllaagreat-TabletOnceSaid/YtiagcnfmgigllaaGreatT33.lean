/- A part of a proof over the abstract machine. No conditions. -/
import Derived.Test.YtiagcnfmgigllaaGreatT29
set_option linter.all false
namespace Go.Proofs.YtiagcnfmgigllaaGreat
open Go Go.Ab Wm NumPlain Go.Proofs.Tryz
set_option maxRecDepth 10000
set_option maxHeartbeats 4000000
abbrev R9:Blk:=⟨0,[11],true,[ii 0,.nilslc,.str [],.str [],ii 0,ii 0,ii 0,ii 0,ii 0,.str [],.nilslc]⟩
theorem q0l {h:H} {s:Nat} {sp:AS} {l1 l2:List Pt} {p:Pt} {last code:Int} (w:StAt h s sp (l1++p::l2) last code) (hn:(l1++p::l2).length < 1000) (client seq:Int) (C7:Int) (D5:BL) (L3:BL) (r9:Bool) (l9:Bool) (s8:BL) (c9:Int) (p4:Option BL) (s7:Nat) (o_l:Option (List Change)) (C5:Int)
  (hf:b0O D5 none (l1++p::l2) = some p) (hfr:p.t.fr = false) (ok:TblOk p.t.rows) (okc:CchOk p.t.cache) (hlk:a0D p.t.cache client seq = (none,1)) (hc:0 <= client/\client <= 255) (hs:seq <= 1073741824)
  (hb:c9 = 1->(ls p4).length <= 1099511627776) (hA:d0G (opT p.t.span p.t.rows ⟨C7,D5,L3,⟨r9,l9,s8,⟨c9,p4,s7⟩⟩,o_l,C5⟩).1 = true) (hAr:∀ x ∈ ls (opT p.t.span p.t.rows ⟨C7,D5,L3,⟨r9,l9,s8,⟨c9,p4,s7⟩⟩,o_l,C5⟩).1.rows,(ls x.r).length < 1000000) (hAl:((ls (opT p.t.span p.t.rows ⟨C7,D5,L3,⟨r9,l9,s8,⟨c9,p4,s7⟩⟩,o_l,C5⟩).1.rows).flatMap K9).length <= 1048576) (hAs:(b0I (opT p.t.span p.t.rows ⟨C7,D5,L3,⟨r9,l9,s8,⟨c9,p4,s7⟩⟩,o_l,C5⟩).1).length < 4294967296) :
  ∃ h' p',W K 39 [.one (.ptr s 0 0),.one (ii client),.one (ii seq),.agg [ii C7,.str D5,.str L3,.bool r9,.bool l9,.str s8,ii c9,bs p4,.flt s7,sl 6 l8 o_l,ii C5]] h = some (.ret (.agg (c6 (opT p.t.span p.t.rows ⟨C7,D5,L3,⟨r9,l9,s8,⟨c9,p4,s7⟩⟩,o_l,C5⟩).1)) h')/\p'.d = p.d /\
   p'.t = ⟨p.t.span,p.t.gen,false,(opT p.t.span p.t.rows ⟨C7,D5,L3,⟨r9,l9,s8,⟨c9,p4,s7⟩⟩,o_l,C5⟩).2,(a0v p.t.cache client seq (some (b0I (opT p.t.span p.t.rows ⟨C7,D5,L3,⟨r9,l9,s8,⟨c9,p4,s7⟩⟩,o_l,C5⟩).1))).1⟩/\StAt h' s sp (l1++p'::l2) last code/\Fp h h' (fpS s sp (l1++p::l2)) (fpS s sp (l1++p'::l2)):=by
 obtain ⟨a1,a2,a3⟩:=w.at
 obtain ⟨pr,pc,qr,qc,t1,t2,t3,t4,t5⟩:=a1
 rw [hfr] at t2
 rw [t5] at a2
 obtain ⟨B0,hB0⟩:∃ B:Blk,B = ⟨0,[11],true,[ii C7,.str D5,.str L3,.bool r9,.bool l9,.str s8,ii c9,bs p4,.flt s7,sl 6 l8 o_l,ii C5]⟩:=⟨_,rfl⟩
 have w2:=(w.new B0).new R9
 have e1:=o0l w2 (by omega) D5
 rw [hf] at e1
 simp only [i0X] at e1
 have e2:=o0j ((t4.new B0).new R9) okc client seq
 rw [hlk] at e2
 simp only [C9] at e2
 have d2:((h.new B0).new R9).f p.d = some (Y0 p.t.span p.t.gen false (.ptr pr 0 0) (.ptr pc 0 0)):=by rw [p0 (by simp;omega),p0 (by omega)];exact t2
 obtain ⟨h3,qr',e3,b3,o3⟩:=H0S C7 D5 L3 r9 l9 s8 c9 p4 s7 o_l C5 d2 (by simp;omega) ((t3.new B0).new R9) ok hb
 obtain ⟨M,hM⟩:∃ M,opT p.t.span p.t.rows ⟨C7,D5,L3,⟨r9,l9,s8,⟨c9,p4,s7⟩⟩,o_l,C5⟩ = M:=⟨_,rfl⟩
 rw [hM] at e3 b3 hA hAr hAl hAs |-
 obtain ⟨A,rws⟩:=M
 simp only at e3 b3 hA hAr hAl hAs |-
 have hE:∀ h,W K 76 [.agg (c6 A)] h = some (.ret (.tup [(false,[bs (some (b0I A))]),(false,[ii 0])]) h):=by
  obtain ⟨c,r,⟨lo,hi⟩,g,ge,ol,to,dd,at_,st⟩:=A
  exact u0f c r lo hi g ge ol to dd at_ st hA hAr hAl
 have hCl:(c6 A).length = 11:=rfl
 have hCs:sub (c6 A) 0 11 = some (c6 A):=L4 hCl
 generalize c6 A = C at *
 obtain ⟨X,hX⟩:∃ X:Option BL,some (b0I A) = X:=⟨_,rfl⟩
 have hXl:(ls X).length < 4294967296:=by rw [<- hX];exact hAs
 rw [hX] at hE |-
 have n3:=o3.next
 simp only [A6] at n3
 simp only [List.nodup_cons,oqf,oqe,Option.mem_toList,not_or] at a2
 obtain ⟨⟨x1,x2,x3,x4⟩,⟨x5,x6,x7⟩,⟨x8,x9⟩,x10⟩:=a2
 have hdn:=t1
 have hprn:=t3.1
 have hpcn:=t4.1
 have keep3:∀ b,b < h.next->b ≠ pr->qr ≠ some b->h3.f b = h.f b:=fun b hb1 hb2 hb3=>by rw [o3.keep b (by simp;omega) hb2 hb3,p0 (by simp;omega),p0 (by omega)]
 have d3:h3.f p.d = some (Y0 p.t.span p.t.gen false (.ptr pr 0 0) (.ptr pc 0 0)):=by rw [keep3 _ hdn x1 x3];exact t2
 have hqcn:∀ b,qc = some b->b < h.next:=fun b hb1=>t4.lt hb1
 have hqrn:∀ b,qr = some b->b < h.next:=fun b hb1=>t3.lt hb1
 have bc4:Bx (h3.new ⟨0,[11],true,C⟩) pc 3 J7 p.t.cache qc:=(t4.keep (h':=h3) (by omega) (keep3 _ hpcn (Ne.symm x5) x8) fun b hb1=>keep3 b (hqcn b hb1) (fun e=>x7 (by rw [<- e];exact hb1)) fun e=>by
  rw [e,hb1] at x10;simp at x10).new _
 obtain ⟨h5,qc',e5,b5,o5⟩:=r0P bc4 okc client seq X hXl
 have n5:=o5.next
 simp only [A6] at n5
 have keep5:∀ b,b < h3.next->b ≠ pc->qc ≠ some b->h5.f b = h3.f b:=fun b hb1 hb2 hb3=>by rw [o5.keep b (by simp;omega) hb2 hb3,p0 (by omega)]
 have f5a:h5.f h3.next = some ⟨0,[11],true,C⟩:=by rw [o5.keep _ (by simp) (by omega) (fun e=>by have:=hqcn _ e;omega)];simp
 have hn1qr:qr ≠ some (h.next + 1):=fun e=>by have:=hqrn _ e;omega
 have hn1qc:qc ≠ some (h.next + 1):=fun e=>by have:=hqcn _ e;omega
 have f5b:h5.f (h.next + 1) = some R9:=by
  rw [keep5 _ (by omega) (by omega) hn1qc,o3.keep _ (by simp) (by omega) hn1qr];simp
 have qr'n:∀ b,qr' = some b->b < h3.next/\(qr = some b \/ h.next + 1 + 1 <= b):=fun b hb1=>by
  refine ⟨b3.lt hb1, ?_⟩
  rcases o3.own with e | ⟨y,e,hy⟩
  ·left;rw [<- e];exact hb1
  ·simp at hy;rw [e] at hb1;cases hb1;right;omega
 have qc'n:∀ b,qc' = some b->b < h5.next/\(qc = some b \/ h3.next + 1 <= b):=fun b hb1=>by
  refine ⟨b5.lt hb1, ?_⟩
  rcases o5.own with e | ⟨y,e,hy⟩
  ·left;rw [<- e];exact hb1
  ·simp at hy;rw [e] at hb1;cases hb1;right;omega
 have bsame:∀ b,b < h.next->b ∉ p.fp->(h5.set (h.next + 1) ⟨0,[11],true,C⟩).f b = h.f b:=fun b hb1 hb2=>by
  rw [t5] at hb2
  simp only [oqf,oqe,Option.mem_toList,not_or] at hb2
  rw [l0,if_neg (by omega),keep5 b (by omega) hb2.2.2.1 (fun e=>hb2.2.2.2.2 e),keep3 b hb1 hb2.2.1 (fun e=>hb2.2.2.2.1 e)]
 have tb:TabAt (h5.set (h.next + 1) ⟨0,[11],true,C⟩) p.d ⟨p.t.span,p.t.gen,false,rws,(a0v p.t.cache client seq X).1⟩ (p.d::pr::pc::(qr'.toList++qc'.toList)):=by
  refine ⟨pr,pc,qr',qc',by simp;omega, ?_, ?_, ?_,rfl⟩
  ·rw [l0,if_neg (by omega),keep5 _ (by omega) x2 x4];exact d3
  ·refine b3.keep (by simp;omega) (by rw [l0,if_neg (by omega),keep5 _ (by omega) x5 x7]) fun b hb1=>?_
   have:=qr'n b hb1
   have hne:b ≠ h.next + 1:=by
    rcases this.2 with e | e
    ·have:=hqrn b e;omega
    ·omega
   rw [l0,if_neg hne,keep5 b (by omega)]
   ·rintro rfl
    rcases this.2 with e | e
    ·exact x8 e
    ·omega
   ·intro e
    rcases this.2 with e2 | e2
    ·rw [e,e2] at x10;simp at x10
    ·have:=hqcn _ e;omega
  ·refine b5.keep (by simp) (by rw [l0,if_neg (by omega)]) fun b hb1=>?_
   have:=qc'n b hb1
   rw [l0,if_neg]
   rcases this.2 with e | e
   ·have:=hqcn b e;omega
   ·omega
 have g:Fp h (h5.set (h.next + 1) ⟨0,[11],true,C⟩) p.fp (p.d::pr::pc::(qr'.toList++qc'.toList)):=by
  refine ⟨by simp;omega,bsame,fun b hb1=>?_⟩
  rw [t5]
  simp only [oqf,oqe,Option.mem_toList] at hb1 |-
  rcases hb1 with rfl | rfl | rfl | hb1 | hb1
  ·simp
  ·simp
  ·simp
  ·rcases (qr'n b hb1).2 with e | e
   ·left;simp [e]
   ·right;omega
  ·rcases (qc'n b hb1).2 with e | e
   ·left;simp [e]
   ·right;omega
 have nd':(p.d::pr::pc::(qr'.toList++qc'.toList)).Nodup:=by
  have y1:∀ x:Nat,x < h.next->qr ≠ some x->qr' ≠ some x:=fun x hx hq e=>by
   rcases (qr'n x e).2 with h | h
   ·exact hq h
   ·omega
  have y2:∀ x:Nat,x < h.next->qc ≠ some x->qc' ≠ some x:=fun x hx hq e=>by
   rcases (qc'n x e).2 with h | h
   ·exact hq h
   ·omega
  simp only [List.nodup_cons,oqf,oqe,Option.mem_toList,not_or]
  refine ⟨⟨x1,x2,y1 _ hdn x3,y2 _ hdn x4⟩,⟨x5,y1 _ hprn x6,y2 _ hprn x7⟩,⟨y1 _ hpcn x8,y2 _ hpcn x9⟩, ?_⟩
  cases qr' with
  | none=>cases qc' <;> simp
  | some a =>
   cases qc' with
   | none=>simp
   | some b =>
    have ha:=qr'n a rfl
    have hb1:=qc'n b rfl
    have:a ≠ b:=by
     rintro rfl
     rcases hb1.2 with e | e
     ·rcases ha.2 with e2 | e2
      ·rw [e,e2] at x10;simp at x10
      ·have:=hqcn a e;omega
     ·omega
    simp [this]
 obtain ⟨st,fp⟩:=w.put (p':=⟨p.d,⟨p.t.span,p.t.gen,false,rws,(a0v p.t.cache client seq X).1⟩,p.d::pr::pc::(qr'.toList++qc'.toList)⟩) rfl tb g nd'
 refine ⟨h5.set (h.next + 1) ⟨0,[11],true,C⟩,⟨p.d,⟨p.t.span,p.t.gen,false,rws,(a0v p.t.cache client seq X).1⟩,p.d::pr::pc::(qr'.toList++qc'.toList)⟩, ?_,rfl,rfl,st,fp⟩
 clear st fp nd' g tb bsame
 have q1:decide (client < 0) = false:=by simp;omega
 have q2:¬ client < 0:=by omega
 have q3:decide (255 < client) = false:=by simp;omega
 have q4:¬ 255 < client:=by omega
 have q5:decide (1073741824 < seq) = false:=by simp;omega
 have q6:¬ 1073741824 < seq:=by omega
 have m1:¬ p.d = h.next:=by omega
 have m2:¬ p.d = h.next + 1:=by omega
 have m3:¬ p.d = h3.next:=by omega
 simp only [Y0] at t2 d3
 rw [hB0] at e1 e2 e3
 refine zzD func39 rfl ?_
 simp only [f39]
 intro Q1 Y1
 repeat' (first
  | (replace Y1:=Y1;simp [-lay,J2,w0J,e1,e2,e3,e5,t2,d3,hE,hCl,hCs,f5a,f5b,q2,q4,q6,m1,m2,m3])
  | refine Y1 _ _ _ ?_)
theorem s0j (a b c d:BL):bin prog K.cmp .eql 43 (.agg [.str a,.str b]) (.agg [.str c,.str d]) = some (.bool (decide (a = c) && decide (b = d))):=by
 have hc:K.cmp 43 = some [.str [],.str []]:=by kernel_rfl
 simp only [bin,hc,T6,eqL,eqS,Bool.and_true,Bool.and_self,if_true,oqE,oqS]
 have e1:(a == c) = decide (a = c):=by rw [Bool.eq_iff_iff];simp
 have e2:(b == d) = decide (b = d):=by rw [Bool.eq_iff_iff];simp
 rw [e1,e2]
theorem p0A {h:H} {sp:AS} {ps:List Pt} (w:Sl h 1 X2 sp ps) (hn:ps.length < 1000) (g:Nat) (caps:List AS) (P:Pt->Bool) (hg:∀ p ∈ ps,W K g (.one (.ptr p.d 0 0)::caps.map AV.one) h = some (.ret (.one (.bool (P p))) h)) :
  W K 127 [.one sp,.one (.fn g [] caps)] h = some (.ret (.one (ii (idx P ps))) h):=by
 obtain ⟨hla,hget⟩:=c0s w
 obtain ⟨R,hR⟩:∃ R,idx P ps = R:=⟨_,rfl⟩
 rw [hR]
 have key:∃ r,W K 127 [.one sp,.one (.fn g [] caps)] h = some r/\r = .ret (.one (ii R)) h:=by
  refine zzE func127 rfl ?_
  simp only [f127]
  intro Q1 Y1
  repeat' (first
   | (replace Y1:=Y1;simp [hla])
   | refine Y1 _ _ _ ?_)
  refine I8 hp ps (fun a r fr hh=>(hh = h/\∀ y ∈ a,P y = false)/\∃ j:Nat->AV,fr = ((.one sp)::(.one (.fn g [] caps))::j 2::j 3::j 4::j 5::j 6::(.one (ii ps.length))::(.one (ii a.length))::j 9::j 10::j 11::j 12::j 13::j 14::j 15::j 16::j 17::j 18::[])) ?_ ?_ _ _ ⟨⟨rfl,by simp⟩,y0 (by simp)⟩
  ·rintro a x r fr hh hll ⟨⟨rfl,ha⟩,j,rfl⟩
   have hil:a.length < ps.length:=by rw [hll];simp
   have hxe:ps[a.length] = x:=by simp only [hll];simp
   have hxm:x ∈ ps:=by rw [hll];simp
   obtain ⟨hix,hrd⟩:=hget a.length hil
   rw [hxe] at hrd
   have hx:=hg x hxm
   have hw:IntKind.i64.wrap ((a.length:Int) + 1) = ((a++[x]).length:Int):=by rw [S4];exact J1 (by omega)
   cases hP:P x with
   | true =>
    rw [hP] at hx
    have hRe:R = (a.length:Int):=by rw [<- hR,hll];exact f0i ha hP
    first | (refine s9 ?_;intro Q2 Y2) | have Y2:=oqk
    repeat' (first
     | (replace Y2:=Y2;simp [hix,hrd,hx,hil])
     | (refine Y2 _ _ _ ?_;clear Y2 Q2;first | simp only [] | simp [hix] | skip)
     | (refine F6 (by assumption) ?_;(try clear Y2);first | simp only [] | simp [hRe] | skip)
     | ((fail_if_success replace Y2:=Y2);(first | refine s9 ?_ | refine A1 ?_ | refine A4 ?_);intro Q2 Y2))
   | false =>
    rw [hP] at hx
    have ha2:∀ y ∈ a++[x],P y = false:=fun y hy=>by
     rcases oqe.1 hy with hy | hy
     ·exact ha y hy
     ·rw [List.mem_singleton.1 hy];exact hP
    generalize hA2:a++[x] = A2 at *
    first | (refine s9 ?_;intro Q3 Y3) | have Y3:=oqk
    repeat' (first
     | (replace Y3:=Y3;simp [hix,hrd,hx,hil,hw])
     | (refine Y3 _ _ _ ?_;clear Y3 Q3;first | simp only [] | simp [hix,hrd,hx,hil,hw] | skip)
     | (refine F6 (by assumption) ?_;(try clear Y3);first | simp only [] | simp [hix,hrd,hx,hil,hw] | skip)
     | ((fail_if_success replace Y3:=Y3);(first | refine s9 ?_ | refine A1 ?_ | refine A4 ?_);intro Q3 Y3))
    exact ⟨⟨trivial,ha2⟩,y0 (by simp)⟩
  ·rintro fr hh ⟨⟨rfl,ha⟩,j,rfl⟩
   have hRe:R = -1:=by rw [<- hR];exact c0l ha
   first | (refine s9 ?_;intro Q4 Y4) | have Y4:=oqk
   repeat' (first
    | (replace Y4:=Y4;simp [hRe])
    | (refine Y4 _ _ _ ?_;clear Y4 Q4;first | simp only [] | simp [hRe] | skip)
    | (refine F6 (by assumption) ?_;(try clear Y4);first | simp only [] | simp [hRe] | skip)
    | ((fail_if_success replace Y4:=Y4);(first | refine s9 ?_ | refine A1 ?_ | refine A4 ?_);intro Q4 Y4))
 obtain ⟨r,e,rfl⟩:=key
 exact e
def d0w (x:Span) (t:TabD):Bool:=decide (t.span = x) && !t.fr
def b0U (x:Span) (g:Int) (t:TabD):Bool:=decide (t.span = x) && decide (t.gen = g)
theorem z0v {h:H} {b:Nat} {p:Pt} (x:Span) (w:TabAt h p.d p.t p.fp) (hb:h.f b = some ⟨0,[2],true,[.str x.lo,.str x.hi]⟩):W K 177 (.one (.ptr p.d 0 0)::[AS.ptr b 0 0].map AV.one) h = some (.ret (.one (.bool (d0w x p.t))) h):=by
 obtain ⟨pr,pc,hd,hdl⟩:=f0a w
 obtain ⟨xl,xh⟩:=x
 have hq:=s0j p.t.span.lo p.t.span.hi xl xh
 have he:d0w ⟨xl,xh⟩ p.t = ((decide (p.t.span.lo = xl) && decide (p.t.span.hi = xh)) && !p.t.fr):=by
  unfold d0w
  congr 1
  cases hs:p.t.span
  simp
 rw [he]
 simp only [List.map_cons,List.map_nil]
 cases hA:(decide (p.t.span.lo = xl) && decide (p.t.span.hi = xh)) with
 | false =>
  rw [hA] at hq
  simp only [Bool.false_and]
  refine zzD func177 rfl ?_
  simp only [f177]
  intro Q5 Y5
  repeat' (first
   | (replace Y5:=Y5;simp [hd,hb,hq])
   | refine Y5 _ _ _ ?_
   | refine dF (id:=1) r0M [] ?_)
 | true =>
  rw [hA] at hq
  simp only [Bool.true_and]
  refine zzD func177 rfl ?_
  simp only [f177]
  intro Q6 Y6
  repeat' (first
   | (replace Y6:=Y6;simp [hd,hb,hq])
   | refine Y6 _ _ _ ?_
   | refine dF (id:=1) r0M [] ?_)
theorem t0e {h:H} {s:Nat} {sp:AS} {ps:List Pt} {last code:Int} (w:StAt h s sp ps last code) (hn:ps.length < 1000) (x:Span):W K 130 [.one (.ptr s 0 0),.agg [.str x.lo,.str x.hi]] h = some (.ret (.one (ii (idx (fun p=>d0w x p.t) ps))) h):=by
 have w1:=w.new ⟨0,[2],true,[.str x.lo,.str x.hi]⟩
 have h2:=w.blk
 have hsn:¬ s = h.next:=by have:=w.lt;omega
 have e1:=p0A w1.spine hn 177 [.ptr h.next 0 0] (fun p=>d0w x p.t) fun p hp=>z0v x (w1.tabs p hp) (by simp)
 obtain ⟨R,hR⟩:∃ R,idx (fun p:Pt=>d0w x p.t) ps = R:=⟨_,rfl⟩
 rw [hR] at e1 |-
 have key:∃ r,W K 130 [.one (.ptr s 0 0),.agg [.str x.lo,.str x.hi]] h = some r/\r = .ret (.one (ii R)) h:=by
  refine zzI func130 rfl ?_
  simp only [f130]
  intro Q7 Y7
  repeat' (first
   | (replace Y7:=Y7;simp [h2,hsn,e1])
   | refine Y7 _ _ _ ?_)
  exact h0D ⟨by simp,fun b hb=>p0 (by omega)⟩ (v':=.one (ii R)) (by simp [A0,z9,c7]) rfl
 obtain ⟨r,e,rfl⟩:=key
 exact e
theorem v0P {h:H} {b b2:Nat} {p:Pt} (x:Span) (g:Int) (w:TabAt h p.d p.t p.fp) (hb:h.f b = some ⟨0,[2],true,[.str x.lo,.str x.hi]⟩) (hb2:h.f b2 = some ⟨0,[1],true,[ii g]⟩):W K 128 (.one (.ptr p.d 0 0)::[AS.ptr b 0 0,.ptr b2 0 0].map AV.one) h = some (.ret (.one (.bool (b0U x g p.t))) h):=by
 obtain ⟨pr,pc,hd,hdl⟩:=f0a w
 obtain ⟨xl,xh⟩:=x
 have hq:=s0j p.t.span.lo p.t.span.hi xl xh
 have he:b0U ⟨xl,xh⟩ g p.t = ((decide (p.t.span.lo = xl) && decide (p.t.span.hi = xh)) && (p.t.gen == g)):=by
  unfold b0U
  congr 1
  ·cases hs:p.t.span
   simp
 rw [he]
 simp only [List.map_cons,List.map_nil]
 cases hA:(decide (p.t.span.lo = xl) && decide (p.t.span.hi = xh)) with
 | false =>
  rw [hA] at hq
  simp only [Bool.false_and]
  refine zzD func128 rfl ?_
  simp only [f128]
  intro Q8 Y8
  repeat' (first
   | (replace Y8:=Y8;simp [hd,hb,hq])
   | refine Y8 _ _ _ ?_
   | refine dF (id:=1) c0P [] ?_)
 | true =>
  rw [hA] at hq
  simp only [Bool.true_and]
  refine zzD func128 rfl ?_
  simp only [f128]
  intro Q9 Y9
  repeat' (first
   | (replace Y9:=Y9;simp [hd,hb,hb2,hq])
   | refine Y9 _ _ _ ?_
   | refine dF (id:=1) c0P [] ?_)
theorem p0i {h:H} {s:Nat} {sp:AS} {ps:List Pt} {last code:Int} (w:StAt h s sp ps last code) (hn:ps.length < 1000) (x:Span) (g:Int):W K 78 [.one (.ptr s 0 0),.agg [.str x.lo,.str x.hi],.one (ii g)] h = some (.ret (.one (ii (idx (fun p=>b0U x g p.t) ps))) h):=by
 have w1:=(w.new ⟨0,[2],true,[.str x.lo,.str x.hi]⟩).new ⟨0,[1],true,[ii g]⟩
 have h2:=w.blk
 have hsn:¬ s = h.next:=by have:=w.lt;omega
 have hsn1:¬ s = h.next + 1:=by have:=w.lt;omega
 have e1:=p0A w1.spine hn 128 [.ptr h.next 0 0,.ptr (h.next + 1) 0 0] (fun p=>b0U x g p.t) fun p hp=>v0P x g (w1.tabs p hp) (by simp) (by simp)
 obtain ⟨R,hR⟩:∃ R,idx (fun p:Pt=>b0U x g p.t) ps = R:=⟨_,rfl⟩
 rw [hR] at e1 |-
 have key:∃ r,W K 78 [.one (.ptr s 0 0),.agg [.str x.lo,.str x.hi],.one (ii g)] h = some r/\r = .ret (.one (ii R)) h:=by
  refine zzI func78 rfl ?_
  simp only [f78]
  intro Q10 Y10
  repeat' (first
   | (replace Y10:=Y10;simp [h2,hsn,hsn1,e1])
   | refine Y10 _ _ _ ?_)
  exact h0D ⟨by simp;omega,fun b hb=>by rw [p0 (by simp;omega),p0 (by omega)]⟩ (v':=.one (ii R)) (by simp [A0,z9,c7]) rfl
 obtain ⟨r,e,rfl⟩:=key
 exact e
theorem z0S {h:H} {p q:Pt} (wp:TabAt h p.d p.t p.fp) (wq:TabAt h q.d q.t q.fp):W K 63 [.one (.ptr p.d 0 0),.one (.ptr q.d 0 0)] h = some (.ret (.one (ii (a0j p.t.span.lo q.t.span.lo))) h):=by
 obtain ⟨pr,pc,hp1,_⟩:=f0a wp
 obtain ⟨qr,qc,hq1,_⟩:=f0a wq
 have hc:=s0Z p.t.span.lo q.t.span.lo h
 refine zzD func63 rfl ?_
 simp only [f63]
 intro Q1 Y1
 repeat' (first
  | (replace Y1:=Y1;simp [hp1,hq1,hc])
  | refine Y1 _ _ _ ?_
  | refine dF (id:=1) h0R [] ?_)
theorem v0g {h:H} {b v:Nat} {l:List Pt} {z:List AS} (ar:Arr h X2 b v l z) (g:Nat) (caps:List AS) (c:Pt->Pt->Int) (hl:l.length < 4611686018427387904)
  (hg:∀ x ∈ l,∀ y ∈ l,∀ h',h'.next = h.next->(∀ q,q < h.next->q ≠ b->h'.f q = h.f q)->W K g ((.one (.ptr x.d 0 0))::(.one (.ptr y.d 0 0))::caps.map AV.one) h' = some (.ret (.one (ii (c x y))) h')) :
  ∃ r,W K 153 [.one (.slc b v 0 l.length 1 none),.one (ii 0),.one (ii l.length),.one (.fn g [] caps)] h = some r/\Rets (fun q h'=>q = .tup []/\Arr h' X2 b v (Z5 (fun x y=>decide (c x y < 0)) l) z/\h'.next = h.next/\∀ y,y < h.next->y ≠ b->h'.f y = h.f y) r:=by
 have hbn:=ar.1
 obtain ⟨lt,hlt0⟩:∃ lt:Pt->Pt->Bool,(fun x y=>decide (c x y < 0)) = lt:=⟨_,rfl⟩
 have hltc:∀ x y,decide (c x y < 0) = lt x y:=fun x y=>by rw [<- hlt0]
 rw [hlt0]
 have hw1:IntKind.i64.wrap 1 = 1:=rfl
 refine Rets.intro fun P hP=>?_
 refine zzE func153 rfl ?_
 simp only [f153]
 intro Q2 Y2
 repeat' (first
  | (replace Y2:=Y2;simp [hw1])
  | refine Y2 _ _ _ ?_
  | (first | refine dF (id:=4) k0j [] ?_ | refine dF (id:=6) g0z [] ?_))
 obtain ⟨I,hI⟩:∃ I:Nat->Fr->H->Prop,I = fun i fr hh=>Arr hh X2 b v (Z5 lt (l.take (i + 1))++l.drop (i + 1)) z/\hh.next = h.next/\(∀ y,y < h.next->y ≠ b->hh.f y = h.f y)/\∃ j:Nat->AV,fr = ((.one (.slc b v 0 l.length 1 none))::(.one (ii 0))::(.one (ii l.length))::(.one (.fn g [] caps))::j 4::j 5::j 6::j 7::(.one (ii (i + 1:Nat)))::j 9::j 10::j 11::j 12::j 13::j 14::j 15::j 16::j 17::j 18::j 19::j 20::j 21::j 22::j 23::j 24::j 25::j 26::j 27::j 28::j 29::j 30::j 31::j 32::j 33::j 34::j 35::j 36::j 37::j 38::j 39::j 40::j 41::j 42::j 43::j 44::j 45::j 46::j 47::j 48::j 49::j 50::j 51::j 52::[]):=⟨_,rfl⟩
 refine S0 hp (l.length - 1) I ?_ ?_ _ _ ?_
 ·intro i fr hh hi hx
  rw [hI] at hx
  obtain ⟨har,hnx,hfm,j,rfl⟩:=hx
  have hlt1:decide ((i + 1:Nat) < (l.length:Int)) = true:=by simp;omega
  have hwi:IntKind.i64.wrap ((i:Int) + 1 + 1) = (i:Int) + 1 + 1:=wrap_i64 (by omega) (by omega)
  have hil:i + 1 < l.length:=by omega
  have hlt2:(i:Int) + 1 < l.length:=by omega
  obtain ⟨x,hx⟩:∃ x,l[i + 1] = x:=⟨_,rfl⟩
  have hd:l.drop (i + 1) = x::l.drop (i + 2):=by rw [<- hx];exact (List.getElem_cons_drop hil).symm
  have ht:l.take (i + 2) = l.take (i + 1)++[x]:=by rw [<- hx];exact (List.take_append_getElem hil).symm
  obtain ⟨s,hs⟩:∃ s,Z5 lt (l.take (i + 1)) = s:=⟨_,rfl⟩
  have hsl:s.length = i + 1:=by rw [<- hs,o0n,oqo];omega
  have hgoal:Z5 lt (l.take (i + 2)) = ins lt x s:=by rw [ht,c0e,hs]
  rw [hs,hd] at har
  have hrl:(l.drop (i + 2)).length + (i + 2) = l.length:=by simp;omega
  obtain ⟨w,hw⟩:∃ w,l.drop (i + 2) = w:=⟨_,rfl⟩
  rw [hw] at har hrl
  first | (refine s9 ?_;intro Q3 Y3) | have Y3:=oqk
  repeat' (first
   | (replace Y3:=Y3;simp [hlt2])
   | (refine Y3 _ _ _ ?_;clear Y3 Q3;first | simp only [] | skip)
   | (refine F6 (by assumption) ?_;(try clear Y3);first | simp only [] | skip)
   | ((fail_if_success replace Y3:=Y3);(first | refine s9 ?_ | refine A1 ?_ | refine A4 ?_);intro Q3 Y3)
   | (first | refine dF (id:=4) k0j [] ?_ | refine dF (id:=6) g0z [] ?_))
  obtain ⟨J,hJ⟩:∃ J:Nat->Fr->H->Prop,J = fun k fr hh=>∃ pre suf,k = pre.length/\s = pre++suf/\(∀ y ∈ suf,lt x y = true)/\Arr hh X2 b v (pre++x::suf++w) z/\hh.next = h.next/\(∀ y,y < h.next->y ≠ b->hh.f y = h.f y)/\∃ j:Nat->AV,fr = ((.one (.slc b v 0 l.length 1 none))::(.one (ii 0))::(.one (ii l.length))::(.one (.fn g [] caps))::j 4::j 5::j 6::j 7::(.one (ii (i + 1:Nat)))::(.one (ii (pre.length:Nat)))::j 10::j 11::j 12::j 13::j 14::j 15::j 16::j 17::j 18::j 19::j 20::j 21::j 22::j 23::j 24::j 25::j 26::j 27::j 28::j 29::j 30::j 31::j 32::j 33::j 34::j 35::j 36::j 37::j 38::j 39::j 40::j 41::j 42::j 43::j 44::j 45::j 46::j 47::j 48::j 49::j 50::j 51::j 52::[]):=⟨_,rfl⟩
  refine b0x hp J ?_ (i + 1) _ _ (by rw [hJ];exact ⟨s,[],hsl.symm,by simp,by simp,by simpa using har,hnx,hfm,by rw [hsl];exact y0 (by simp)⟩)
  intro k fr hh hx
  rw [hJ] at hx
  obtain ⟨pre,suf,hk,hps,hsuf,har,hnx,hfm,j,rfl⟩:=hx
  have hpl:pre.length + suf.length = i + 1:=by rw [<- hsl,hps];simp
  by_cases hp0:pre = []
  ·subst hp0
   simp only [oqc]
   first | (refine s9 ?_;intro Q4 Y4) | have Y4:=oqk
   repeat' (first
    | (replace Y4:=Y4;simp [hwi])
    | (refine Y4 _ _ _ ?_;clear Y4 Q4;first | simp only [] | skip)
    | (refine F6 (by assumption) ?_;(try clear Y4);first | simp only [] | skip)
    | ((fail_if_success replace Y4:=Y4);(first | refine s9 ?_ | refine A1 ?_ | refine A4 ?_);intro Q4 Y4)
    | (first | refine dF (id:=4) k0j [] ?_ | refine dF (id:=6) g0z [] ?_))
   all_goals (
    rw [hI]
    refine ⟨?_,hnx,hfm,y0 (by simp)⟩
    have e1:ins lt x ([]++suf) = x::suf:=by rw [j0L lt x [] suf hsuf];rfl
    rw [hgoal,hps,e1,hw]
    simpa using har)
  ·obtain ⟨pre',y,rfl⟩:∃ p' y,pre = p'++[y]:=⟨pre.dropLast,pre.getLast hp0,(List.dropLast_concat_getLast hp0).symm⟩
   simp only [oqa,oqb,oqc,Nat.zero_add] at hk hpl |-
   have hgt:decide ((0:Int) < (pre'.length + 1:Nat)) = true:=by simp <;> omega
   have hge:(0:Int) <= (pre'.length:Int) + 1:=by omega
   have hwj:IntKind.i64.wrap (pre'.length:Int) = (pre'.length:Int):=wrap_i64 (by omega) (by omega)
   have hwk:IntKind.i64.wrap ((pre'.length:Int) + 1) = (pre'.length:Int) + 1:=wrap_i64 (by omega) (by omega)
   obtain ⟨fx,ex,M,hf,hM,_,hrd,hwr⟩:=har.cells c0d
   have ha1:=U5 (P:=prog) (size:=1) (b:=b) (v:=v) (n:=l.length) (i:=pre'.length + 1) underlying95 (by simp) (by omega) (by omega)
   have ha2:=U5 (P:=prog) (size:=1) (b:=b) (v:=v) (n:=l.length) (i:=pre'.length) underlying95 (by simp) (by omega) (by omega)
   obtain ⟨r1,r2⟩:=hrd (pre'.length + 1) (by simp <;> omega)
   obtain ⟨r3,r4⟩:=hrd pre'.length (by simp <;> omega)
   have g1:(pre'++[y]++x::suf++w)[pre'.length + 1]'(by simp <;> omega) = x:=by simp [List.getElem_append]
   have g2:(pre'++[y]++x::suf++w)[pre'.length]'(by simp <;> omega) = y:=by simp [List.getElem_append]
   rw [g1] at r2
   rw [g2] at r4
   have hxm:x ∈ l:=by rw [<- hx];exact List.getElem_mem _
   have hym:y ∈ l:=by
    have h1:y ∈ s:=by rw [hps];simp
    rw [<- hs] at h1
    exact List.mem_of_mem_take ((l0b lt _).mem_iff.1 h1)
   have hcmp:=hg x hxm y hym hh hnx hfm
   simp only [Nat.mul_one,X2] at ha1 ha2 r1 r2 r3 r4 hwr
   have hlen1:(lay M (pre'.length + 1) [.ptr y.d 0 0]).length = M.length:=by simp [lay];omega
   cases hc:lt x y
   ·have hc2:=hltc x y
    rw [hc] at hc2
    have hc3:¬ c x y < 0:=by simpa using hc2
    first | (refine s9 ?_;intro Q5 Y5) | have Y5:=oqk
    repeat' (first
     | (replace Y5:=Y5;simp [-lay,hwi,hge,hwj,ha1,ha2,hf,r1,r2,r3,r4,hcmp,hc3])
     | (refine Y5 _ _ _ ?_;clear Y5 Q5;first | simp only [] | skip)
     | (refine F6 (by assumption) ?_;(try clear Y5);first | simp only [] | skip)
     | ((fail_if_success replace Y5:=Y5);(first | refine s9 ?_ | refine A1 ?_ | refine A4 ?_);intro Q5 Y5)
     | (first | refine dF (id:=4) k0j [] ?_ | refine dF (id:=6) g0z [] ?_))
    all_goals (
     rw [hI]
     refine ⟨?_,hnx,hfm,y0 (by simp)⟩
     have e1:ins lt x (pre'++[y]++suf) = pre'++[y,x]++suf:=by rw [j0L lt x _ suf hsuf,g0a,hc];rfl
     rw [hgoal,hps,e1,hw]
     simpa using har)
   ·have hc2:=hltc x y
    rw [hc] at hc2
    have hc3:c x y < 0:=by simpa using hc2
    first | (refine s9 ?_;intro Q6 Y6) | have Y6:=oqk
    repeat' (first
     | (replace Y6:=Y6;simp [-lay,hge,hwj,ha1,ha2,hf,r1,r2,r3,r4,hcmp,hc3,hlen1])
     | (refine Y6 _ _ _ ?_;clear Y6 Q6;first | simp only [] | skip)
     | (refine F6 (by assumption) ?_;(try clear Y6);first | simp only [] | skip)
     | ((fail_if_success replace Y6:=Y6);(first | refine s9 ?_ | refine A1 ?_ | refine A4 ?_);intro Q6 Y6)
     | (first | refine dF (id:=4) k0j [] ?_ | refine dF (id:=6) g0z [] ?_))
    all_goals (
     refine ⟨pre'.length,by omega, ?_⟩
     rw [hJ]
     have a1:=hwr (hh.set b ⟨v,[M.length],fx,lay M (pre'.length + 1) [.ptr y.d 0 0]⟩) (pre'.length + 1) y (by simp) (by simp;omega) (by simp)
     obtain ⟨fx1,ex1,M1,hf1,_,_,_,hwr1⟩:=a1.cells c0d
     simp only [l0,if_true,oqI,Blk.mk.injEq,true_and] at hf1
     obtain ⟨_,rfl,rfl⟩:=hf1
     simp only [Nat.mul_one,X2] at hwr1
     refine ⟨pre',y::suf,rfl,by rw [hps];simp, ?_, ?_,by simpa using hnx, ?_,y0 (by simp)⟩
     ·intro q hq
      rcases oqf.1 hq with rfl | hq
      ·exact hc
      ·exact hsuf q hq
     ·have e2:(((pre'++[y]++x::suf++w).set (pre'.length + 1) y).set pre'.length x) = pre'++x::(y::suf)++w:=by simp [List.set_append]
      rw [<- e2]
      refine hwr1 _ pre'.length x (by simp) ?_ ?_
      ·simp;omega
      ·simp [lay];omega
     ·intro q hq hqb
      rw [l0,if_neg hqb];exact hfm q hq hqb)
 ·intro fr hh hx
  rw [hI] at hx
  obtain ⟨har,hnx,hfm,j,rfl⟩:=hx
  by_cases hl0:l = []
  ·subst hl0
   first | (refine s9 ?_;intro Q7 Y7) | have Y7:=oqk
   repeat' (first
    | (replace Y7:=Y7;simp)
    | (refine Y7 _ _ _ ?_;clear Y7 Q7;first | simp only [] | simp | skip)
    | (refine F6 (by assumption) ?_;(try clear Y7);first | simp only [] | simp | skip)
    | ((fail_if_success replace Y7:=Y7);(first | refine s9 ?_ | refine A1 ?_ | refine A4 ?_);intro Q7 Y7)
    | (first | refine dF (id:=4) k0j [] ?_ | refine dF (id:=6) g0z [] ?_))
   all_goals exact hP _ _ ⟨rfl,by simpa using har,hnx,hfm⟩
  ·have:0 < l.length:=List.length_pos_iff.2 hl0
   have hlt1:decide ((l.length - 1 + 1:Nat) < (l.length:Int)) = false:=by simp;omega
   have hdl:l.length - 1 + 1 = l.length:=by omega
   rw [hdl,List.take_of_length_le (by omega),List.drop_of_length_le (by omega),List.append_nil] at har
   simp only [hdl]
   first | (refine s9 ?_;intro Q8 Y8) | have Y8:=oqk
   repeat' (first
    | (replace Y8:=Y8;simp)
    | (refine Y8 _ _ _ ?_;clear Y8 Q8;first | simp only [] | simp | skip)
    | (refine F6 (by assumption) ?_;(try clear Y8);first | simp only [] | simp | skip)
    | ((fail_if_success replace Y8:=Y8);(first | refine s9 ?_ | refine A1 ?_ | refine A4 ?_);intro Q8 Y8)
    | (first | refine dF (id:=4) k0j [] ?_ | refine dF (id:=6) g0z [] ?_))
   all_goals exact hP _ _ ⟨rfl,har,hnx,hfm⟩
 ·rw [hI]
  refine ⟨?_,rfl,fun _ _ _=>rfl,y0 (by simp)⟩
  cases l with
  | nil=>simpa using ar
  | cons a l=>simpa [Z5] using ar
def pLt (p q:Pt):Bool:=blt p.t.span.lo q.t.span.lo
theorem C0E:(fun p q:Pt=>decide (a0j p.t.span.lo q.t.span.lo < 0)) = pLt:=by
 funext p q
 rw [Bool.eq_iff_iff,oqj]
 exact f0b _ _
theorem r0k {h:H} {s:Nat} {sp:AS} {ps:List Pt} {last code:Int} (w:StAt h s sp ps last code) (hn:ps.length <= 16) :
  ∃ h',W K 32 [.one (.ptr s 0 0)] h = some (.ret (.tup []) h')/\StAt h' s sp (Z5 pLt ps) last code/\Fp h h' (fpS s sp ps) (fpS s sp (Z5 pLt ps)):=by
 have h2:=w.blk
 have hs:=w.spine
 have hperm:=l0b pLt ps
 have hmem:∀ b,b ∈ fpS s sp (Z5 pLt ps) ↔ b ∈ fpS s sp ps:=fun b=>by
  simp only [fpS,oqf,oqe,List.mem_flatMap,hperm.mem_iff]
 have hnd:(fpS s sp (Z5 pLt ps)).Nodup:=by
  refine (List.Perm.nodup_iff ?_).2 w.nd
  unfold fpS
  exact ((hperm.flatMap_right _).append_left _).cons _
 rcases hs with ⟨rfl,rfl⟩ | ⟨b,v,z,rfl,ar⟩
 ·have hi:W K 153 [.one .nilslc,.one (ii 0),.one (ii 0),.one (.fn 63 [] [])] h = some (.ret (.tup []) h):=by
   have key:∃ r,W K 153 [.one .nilslc,.one (ii 0),.one (ii 0),.one (.fn 63 [] [])] h = some r/\r = .ret (.tup []) h:=by
    have hw1:IntKind.i64.wrap 1 = 1:=rfl
    refine zzE func153 rfl ?_
    simp only [f153]
    intro Q9 Y9
    repeat' (first
     | (replace Y9:=Y9;simp [hw1])
     | refine Y9 _ _ _ ?_
     | (first | refine dF (id:=4) k0j [] ?_ | refine dF (id:=6) g0z [] ?_))
    refine S0 hp 0 (fun i fr hh=>hh = h/\∃ j:Nat->AV,fr = (j 0::j 1::(.one (ii 0))::j 3::j 4::j 5::j 6::j 7::(.one (ii 1))::j 9::j 10::j 11::j 12::j 13::j 14::j 15::j 16::j 17::j 18::j 19::j 20::j 21::j 22::j 23::j 24::j 25::j 26::j 27::j 28::j 29::j 30::j 31::j 32::j 33::j 34::j 35::j 36::j 37::j 38::j 39::j 40::j 41::j 42::j 43::j 44::j 45::j 46::j 47::j 48::j 49::j 50::j 51::j 52::[])) ?_ ?_ _ _ ⟨rfl,y0 (by simp)⟩
    ·intro i fr hh hi;omega
    ·rintro fr hh ⟨rfl,j,rfl⟩
     first | (refine s9 ?_;intro Q10 Y10) | have Y10:=oqk
     repeat' (first
      | (replace Y10:=Y10;simp)
      | (refine Y10 _ _ _ ?_;clear Y10 Q10;first | simp only [] | simp | skip)
      | (refine F6 (by assumption) ?_;(try clear Y10);first | simp only [] | simp | skip)
      | ((fail_if_success replace Y10:=Y10);(first | refine s9 ?_ | refine A1 ?_ | refine A4 ?_);intro Q10 Y10)
      | (first | refine dF (id:=4) k0j [] ?_ | refine dF (id:=6) g0z [] ?_))
   obtain ⟨r,e,rfl⟩:=key
   exact e
  have hst:W K 104 [.one .nilslc,.one (ii 0),.one (.fn 63 [] [])] h = some (.ret (.tup []) h):=by
   have key:∃ r,W K 104 [.one .nilslc,.one (ii 0),.one (.fn 63 [] [])] h = some r/\r = .ret (.tup []) h:=by
    refine zzE func104 rfl ?_
    simp only [f104]
    intro Q11 Y11
    repeat' (first
     | (replace Y11:=Y11;simp)
     | refine Y11 _ _ _ ?_)
    refine S0 hp 0 (fun i fr hh=>hh = h/\∃ j:Nat->AV,fr = ((.one .nilslc)::(.one (ii 0))::(.one (.fn 63 [] []))::j 3::j 4::j 5::(.one (ii 20))::(.one (ii 0))::(.one (ii 20))::j 9::j 10::j 11::j 12::j 13::j 14::j 15::j 16::j 17::j 18::j 19::j 20::j 21::j 22::j 23::j 24::j 25::j 26::j 27::j 28::j 29::j 30::j 31::j 32::j 33::j 34::j 35::j 36::j 37::j 38::j 39::j 40::j 41::j 42::j 43::j 44::j 45::j 46::j 47::j 48::j 49::j 50::j 51::j 52::j 53::j 54::j 55::j 56::j 57::j 58::j 59::j 60::j 61::j 62::[])) ?_ ?_ _ _ ⟨rfl,y0 (by simp)⟩
    ·intro i fr hh hi;omega
    ·rintro fr hh ⟨rfl,j,rfl⟩
     first | (refine s9 ?_;intro Q12 Y12) | have Y12:=oqk
     repeat' (first
      | (replace Y12:=Y12;simp [hi])
      | (refine Y12 _ _ _ ?_;clear Y12 Q12;first | simp only [] | simp [hi] | skip)
      | (refine F6 (by assumption) ?_;(try clear Y12);first | simp only [] | simp [hi] | skip)
      | ((fail_if_success replace Y12:=Y12);(first | refine s9 ?_ | refine A1 ?_ | refine A4 ?_);intro Q12 Y12))
     refine S0 hp 0 (fun i fr h4=>h4 = hh/\∃ j:Nat->AV,fr = (j 0::(.one (ii 0))::j 2::j 3::j 4::j 5::(.one (ii 20))::j 7::j 8::j 9::j 10::j 11::j 12::j 13::j 14::j 15::j 16::j 17::j 18::j 19::j 20::j 21::j 22::j 23::j 24::j 25::j 26::j 27::j 28::j 29::j 30::j 31::j 32::j 33::j 34::j 35::j 36::j 37::j 38::j 39::j 40::j 41::j 42::j 43::j 44::j 45::j 46::j 47::j 48::j 49::j 50::j 51::j 52::j 53::j 54::j 55::j 56::j 57::j 58::j 59::j 60::j 61::j 62::[])) ?_ ?_ _ _ ⟨rfl,y0 (by simp)⟩
     ·intro i fr h4 hi;omega
     ·rintro fr h4 ⟨rfl,j,rfl⟩
      first | (refine s9 ?_;intro Q13 Y13) | have Y13:=oqk
      repeat' (first
       | (replace Y13:=Y13;simp)
       | (refine Y13 _ _ _ ?_;clear Y13 Q13;first | simp only [] | simp | skip)
       | (refine F6 (by assumption) ?_;(try clear Y13);first | simp only [] | simp | skip)
       | ((fail_if_success replace Y13:=Y13);(first | refine s9 ?_ | refine A1 ?_ | refine A4 ?_);intro Q13 Y13))
   obtain ⟨r,e,rfl⟩:=key
   exact e
  refine ⟨h, ?_,by simpa using w,Fp.refl _ _⟩
  have hss:W K 62 [.one .nilslc,.one (.fn 63 [] [])] h = some (.ret (.tup []) h):=by
   refine zzD func62 rfl ?_
   simp only [f62]
   intro Q14 Y14
   repeat' (first
    | (replace Y14:=Y14;simp [hst])
    | refine Y14 _ _ _ ?_)
  refine zzD func32 rfl ?_
  simp only [f32]
  intro Q15 Y15
  repeat' (first
   | (replace Y15:=Y15;simp [h2,hss])
   | refine Y15 _ _ _ ?_)
 ·have hsb:b ≠ s:=fun e=>by
   have:=w.nd
   rw [fpS,e] at this
   simp [z7] at this
  have htb:∀ p ∈ ps,b ∉ p.fp:=fun p hp hb=>by
   have:=w.nd
   simp only [fpS,z7,Option.toList,oqm,oql,List.nodup_cons,List.mem_flatMap,not_exists,not_and] at this
   exact this.2.1 p hp hb
  obtain ⟨_,e1,hr1⟩:=v0g ar 63 [] (fun p q=>a0j p.t.span.lo q.t.span.lo) (by omega) fun x hx y hy h' hn' hf' =>
   z0S ((w.tabs x hx).keep (by omega) fun c hc=>hf' c ((w.tabs x hx).lt c hc) fun e=>htb x hx (by rw [<- e];exact hc)) ((w.tabs y hy).keep (by omega) fun c hc=>hf' c ((w.tabs y hy).lt c hc) fun e=>htb y hy (by rw [<- e];exact hc))
  obtain ⟨_,h1,rfl,rfl,a1,n1,f1⟩:=hr1.ret
  rw [C0E] at a1
  have keep:∀ c,c < h.next->c ≠ b->h1.f c = h.f c:=f1
  have g1:((ps.length:Int) >= 20) = False:=eq_false (by omega)
  have d1:decide ((20:Int) <= ps.length) = false:=by simp;omega
  have d2:¬ (20:Int) <= ps.length:=by omega
  have d3:decide ((20:Int) < ps.length) = false:=by simp;omega
  have d4:¬ (20:Int) < ps.length:=by omega
  have d5:¬ 20 <= ps.length:=by omega
  have d6:¬ 20 < ps.length:=by omega
  have hst:W K 104 [.one (.slc b v 0 ps.length 1 none),.one (ii ps.length),.one (.fn 63 [] [])] h = some (.ret (.tup []) h1):=by
   have key:∃ r,W K 104 [.one (.slc b v 0 ps.length 1 none),.one (ii ps.length),.one (.fn 63 [] [])] h = some r/\r = .ret (.tup []) h1:=by
    refine zzE func104 rfl ?_
    simp only [f104]
    intro Q16 Y16
    repeat' (first
     | (replace Y16:=Y16;simp)
     | refine Y16 _ _ _ ?_)
    refine S0 hp 0 (fun i fr hh=>hh = h/\∃ j:Nat->AV,fr = ((.one (.slc b v 0 ps.length 1 none))::(.one (ii ps.length))::(.one (.fn 63 [] []))::j 3::j 4::j 5::(.one (ii 20))::(.one (ii 0))::(.one (ii 20))::j 9::j 10::j 11::j 12::j 13::j 14::j 15::j 16::j 17::j 18::j 19::j 20::j 21::j 22::j 23::j 24::j 25::j 26::j 27::j 28::j 29::j 30::j 31::j 32::j 33::j 34::j 35::j 36::j 37::j 38::j 39::j 40::j 41::j 42::j 43::j 44::j 45::j 46::j 47::j 48::j 49::j 50::j 51::j 52::j 53::j 54::j 55::j 56::j 57::j 58::j 59::j 60::j 61::j 62::[])) ?_ ?_ _ _ ⟨rfl,y0 (by simp)⟩
    ·intro i fr hh hi;omega
    ·rintro fr hh ⟨rfl,j,rfl⟩
     try simp only [List.map_nil] at e1
     first | (refine s9 ?_;intro Q17 Y17) | have Y17:=oqk
     repeat' (first
      | (replace Y17:=Y17;simp [d2,e1])
      | (refine Y17 _ _ _ ?_;clear Y17 Q17;first | simp only [] | simp [d1,d2,d5,e1] | skip)
      | (refine F6 (by assumption) ?_;(try clear Y17);first | simp only [] | simp [d1,d2,d5,e1] | skip)
      | ((fail_if_success replace Y17:=Y17);(first | refine s9 ?_ | refine A1 ?_ | refine A4 ?_);intro Q17 Y17))
     refine S0 hp 0 (fun i fr h4=>h4 = h1/\∃ j:Nat->AV,fr = (j 0::(.one (ii ps.length))::j 2::j 3::j 4::j 5::(.one (ii 20))::j 7::j 8::j 9::j 10::j 11::j 12::j 13::j 14::j 15::j 16::j 17::j 18::j 19::j 20::j 21::j 22::j 23::j 24::j 25::j 26::j 27::j 28::j 29::j 30::j 31::j 32::j 33::j 34::j 35::j 36::j 37::j 38::j 39::j 40::j 41::j 42::j 43::j 44::j 45::j 46::j 47::j 48::j 49::j 50::j 51::j 52::j 53::j 54::j 55::j 56::j 57::j 58::j 59::j 60::j 61::j 62::[])) ?_ ?_ _ _ ⟨rfl,y0 (by simp)⟩
     ·intro i fr h4 hi;omega
     ·rintro fr h4 ⟨rfl,j,rfl⟩
      first | (refine s9 ?_;intro Q18 Y18) | have Y18:=oqk
      repeat' (first
       | (replace Y18:=Y18;simp [d4])
       | (refine Y18 _ _ _ ?_;clear Y18 Q18;first | simp only [] | simp [d3,d4,d6] | skip)
       | (refine F6 (by assumption) ?_;(try clear Y18);first | simp only [] | simp [d3] | skip)
       | ((fail_if_success replace Y18:=Y18);(first | refine s9 ?_ | refine A1 ?_ | refine A4 ?_);intro Q18 Y18))
   obtain ⟨r,e,rfl⟩:=key
   exact e
  have hss:W K 62 [.one (.slc b v 0 ps.length 1 none),.one (.fn 63 [] [])] h = some (.ret (.tup []) h1):=by
   refine zzD func62 rfl ?_
   simp only [f62]
   intro Q19 Y19
   repeat' (first
    | (replace Y19:=Y19;simp [hst])
    | refine Y19 _ _ _ ?_)
  refine ⟨h1, ?_,⟨by have:=w.lt;omega,by rw [keep s w.lt (Ne.symm hsb)];exact h2,.inr ⟨b,v,z,by simp,a1⟩,fun p hp=>?_,hnd⟩,⟨by omega,fun c hc hcn=>?_,fun c hc=>.inl ((hmem c).1 hc)⟩⟩
  ·refine zzD func32 rfl ?_
   simp only [f32]
   intro Q20 Y20
   repeat' (first
    | (replace Y20:=Y20;simp [h2,hss])
    | refine Y20 _ _ _ ?_)
  ·have hp':=hperm.mem_iff.1 hp
   exact (w.tabs p hp').keep (by omega) fun c hc=>keep c ((w.tabs p hp').lt c hc) fun e=>htb p hp' (by rw [<- e];exact hc)
  ·exact keep c hc fun e=>hcn (by rw [e];simp [fpS,z7])
theorem t0B {h:H} {b v:Nat} {l:List Pt} {z:List AS} (ar:Arr h X2 b v l z) (i:Nat) (hi:i < l.length) (hl:l.length <= 1000000) :
  ∃ r,W K 79 [.one (.slc b v 0 l.length 1 none),.one (ii i),.one (ii (i + 1))] h = some r/\Rets (fun q h'=>q = .one (.slc b v 0 (l.length - 1) 1 none)/\(∃ z',Arr h' X2 b v (l.eraseIdx i) z')/\h'.next = h.next/\∀ y,y ≠ b->h'.f y = h.f y) r:=by
 refine Rets.intro fun P hP=>?_
 obtain ⟨h1,z1,e1,a1,hz1,n1,f1⟩:=i0M (P:=prog) (t:=95) underlying95 (by simp) (by simp) Tryz.bytes98 (by omega) c0d ar hi (by simp only [N3];omega)
 have hll:(l.eraseIdx i).length = l.length - 1:=by rw [List.length_eraseIdx];simp [hi]
 obtain ⟨kb,hw,a2⟩:=d0I c0d a1 (c:=[.nilptr]) (by rw [hz1];simp)
 obtain ⟨_,fx,ex,hf⟩:=a1
 rw [hll] at hw
 have hE:l.length * 1 <= (cat X2 (l.eraseIdx i)++z1).length:=by rw [oqa,A8 c0d,hll,hz1];omega
 generalize cat X2 (l.eraseIdx i)++z1 = M at hf hE
 simp only [Nat.mul_one] at e1 hw hE
 have q1:(i:Int) <= (i:Int) + 1:=by omega
 have q2:((i:Int) + 1).toNat = i + 1:=by omega
 have q3:i <= i + 1:=by omega
 have q4:i + 1 <= l.length:=by omega
 have q5:i <= l.length:=by omega
 have q6:l.length - 1 <= l.length:=by omega
 have q7:¬ l.length <= l.length - 1:=by omega
 have q8:l.length - (l.length - 1) = 1:=by omega
 have q9:(0:Int) <= (i:Int) + 1:=by omega
 have q10:¬ (i:Int) = (i:Int) + 1:=by omega
 have q11:decide ((i:Int) = (i:Int) + 1) = false:=by simp;omega
 have q12:((i:Int) == (i:Int) + 1) = false:=by simp;omega
 have q13:¬ i + 1 < i:=by omega
 have q14:¬ l.length < i + 1:=by omega
 have q15:¬ l.length < l.length - 1:=by omega
 have q16:¬ l.length < i:=by omega
 refine zzE func79 rfl ?_
 simp only [f79]
 intro Q1 Y1
 repeat' (first
  | (replace Y1:=Y1;simp [-lay,-a0O,-c0Z,e1,hf,hE,q2,q4,q5,q6,q7,q8,q9,q12,q13,q14,q15,hw,N4,U8,N7,d0T])
  | refine Y1 _ _ _ ?_
  | refine dF (id:=5) zl8 [] ?_)
 all_goals exact hP _ _ ⟨rfl,⟨_,a2⟩,by simpa using n1,fun y hy=>by rw [l0,if_neg hy];exact f1 y hy⟩
theorem x0n {d pr pc:Nat} {qr qc:Option Nat} (hr:(pr::qr.toList).Nodup) (hc:(pc::qc.toList).Nodup) (h1:d ∉ pr::qr.toList) (h2:d ∉ pc::qc.toList) (h3:∀ x ∈ pr::qr.toList,x ∉ pc::qc.toList):(d::pr::pc::(qr.toList++qc.toList)).Nodup:=by
 cases qr <;> cases qc <;> simp at * <;> omega
theorem StAt.of {h h':H} {s:Nat} {sp sp':AS} {ps ps':List Pt} {last code last' code':Int} (w:StAt h s sp ps last code) (hn:h.next <= h'.next) (hblk:h'.f s = some ⟨0,[3],true,[sp',ii last',ii code']⟩) (hsp:Sl h' 1 X2 sp' ps')
  (Yb:∀ b,z7 sp' = some b->z7 sp = some b \/ (h.next <= b/\b ∉ ps'.flatMap (·.fp))) (htabs:∀ q ∈ ps',q ∈ ps \/ (TabAt h' q.d q.t q.fp/\∀ b ∈ q.fp,h.next <= b)) (hkeep:∀ b,b < h.next->b ≠ s->z7 sp ≠ some b->h'.f b = h.f b) (hnd:(ps'.flatMap (·.fp)).Nodup) :
  StAt h' s sp' ps' last' code'/\Fp h h' (fpS s sp ps) (fpS s sp' ps'):=by
 have wn:=w.nd
 have wl:=w.fp_lt
 have wlt:=w.lt
 have hmem:∀ b q,q ∈ ps->b ∈ q.fp->b ∈ fpS s sp ps:=fun b q hq hb=>by simp only [fpS,oqf,oqe,List.mem_flatMap];exact .inr (.inr ⟨q,hq,hb⟩)
 simp only [fpS,List.nodup_cons,oqe,List.mem_flatMap,not_or,not_exists,not_and] at wn
 obtain ⟨⟨n1,n2⟩,n3⟩:=wn
 rw [List.nodup_append] at n3
 obtain ⟨n4,n5,n6⟩:=n3
 have hfl:∀ b,b ∈ ps'.flatMap (·.fp)->(∃ q ∈ ps,b ∈ q.fp) \/ h.next <= b:=fun b hb=>by
  obtain ⟨q,hq,hbq⟩:=List.mem_flatMap.1 hb
  rcases htabs q hq with e | ⟨_,e⟩
  ·exact .inl ⟨q,e,hbq⟩
  ·exact .inr (e b hbq)
 refine ⟨⟨by omega,hblk,hsp,fun q hq=>?_, ?_⟩,⟨hn,fun b hb hbn=>?_,fun b hb=>?_⟩⟩
 ·rcases htabs q hq with e | ⟨e,_⟩
  ·refine (w.tabs q e).keep hn fun b hb=>hkeep b (wl b (hmem b q e hb)) (fun hbs=>n2 q e (hbs ▸ hb)) fun ho=>n6 b (by simp [ho]) b (List.mem_flatMap.2 ⟨q,e,hb⟩) rfl
  ·exact e
 ·simp only [fpS,List.nodup_cons,oqe]
  refine ⟨fun hc=>?_, ?_⟩
  ·rcases hc with hc | hc
   ·rcases Yb s (by simpa using hc) with e | ⟨e,_⟩
    ·exact n1 (by simp [e])
    ·omega
   ·rcases hfl s hc with ⟨q,hq,hb⟩ | e
    ·exact n2 q hq hb
    ·omega
  ·rw [List.nodup_append]
   refine ⟨by cases z7 sp' <;> simp,hnd,fun a ha b hb e=>?_⟩
   subst e
   rcases Yb a (by simpa using ha) with e | ⟨e,e2⟩
   ·rcases hfl a hb with ⟨q,hq,hbq⟩ | e2
    ·exact n6 a (by simp [e]) a (List.mem_flatMap.2 ⟨q,hq,hbq⟩) rfl
    ·have:=wl a (by simp [fpS,e]);omega
   ·exact e2 hb
 ·refine hkeep b hb (fun e=>hbn (by simp [fpS,e])) fun e=>hbn (by simp [fpS,e])
 ·simp only [fpS,oqf,oqe] at hb |-
  rcases hb with hb | hb | hb
  ·exact .inl (.inl hb)
  ·rcases Yb b (by simpa using hb) with e | ⟨e,_⟩
   ·exact .inl (.inr (.inl (by simp [e])))
   ·exact .inr e
  ·rcases hfl b hb with ⟨q,hq,hbq⟩ | e
   ·exact .inl (.inr (.inr (List.mem_flatMap.2 ⟨q,hq,hbq⟩)))
   ·exact .inr e
theorem StAt.flat {h:H} {s:Nat} {sp:AS} {ps:List Pt} {last code:Int} (w:StAt h s sp ps last code):(ps.flatMap (·.fp)).Nodup/\∀ b ∈ ps.flatMap (·.fp),b < h.next:=by
 have wn:=w.nd
 simp only [fpS,List.nodup_cons] at wn
 refine ⟨(List.nodup_append.1 wn.2).2.1,fun b hb=>w.fp_lt b (by simp [fpS];exact .inr (.inr (by simpa using hb)))⟩
end Go.Proofs.YtiagcnfmgigllaaGreat
