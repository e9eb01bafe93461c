/- A part of a proof over the abstract machine. No conditions. -/
import Derived.Test.YtiagcnfmgigllaaGreatC15t
set_option linter.all false
namespace Go.Proofs.YtiagcnfmgigllaaGreat
open Go Go.Ab Wm NumPlain Go.Proofs.Tryz
set_option maxRecDepth 10000
def TabAt (h:H) (d:Nat) (t:TabD) (fp:List Nat):Prop :=
 ∃ pr pc qr qc,d < h.next/\h.f d = some (Y0 t.span t.gen t.fr (.ptr pr 0 0) (.ptr pc 0 0))/\Bx h pr 2 g9 t.rows qr/\Bx h pc 3 J7 t.cache qc/\fp = d::pr::pc::(qr.toList++qc.toList)
theorem TabAt.keep {h h':H} {d:Nat} {t:TabD} {fp:List Nat} (a:TabAt h d t fp) (hn:h.next <= h'.next) (hf:∀ b ∈ fp,h'.f b = h.f b):TabAt h' d t fp:=by
 obtain ⟨pr,pc,qr,qc,h1,h2,h3,h4,rfl⟩:=a
 exact ⟨pr,pc,qr,qc,by omega,by rw [hf d (by simp)];exact h2,h3.keep hn (hf pr (by simp)) fun b hb=>hf b (by simp [hb]),h4.keep hn (hf pc (by simp)) fun b hb=>hf b (by simp [hb]),rfl⟩
theorem TabAt.lt {h:H} {d:Nat} {t:TabD} {fp:List Nat} (a:TabAt h d t fp):∀ b ∈ fp,b < h.next:=by
 obtain ⟨pr,pc,qr,qc,h1,h2,h3,h4,rfl⟩:=a
 intro b hb
 simp only [oqf,oqe,Option.mem_toList] at hb
 rcases hb with rfl | rfl | rfl | hb | hb
 ·exact h1
 ·exact h3.1
 ·exact h4.1
 ·exact h3.lt hb
 ·exact h4.lt hb
structure Pt where
 d:Nat
 t:TabD
 fp:List Nat
def X2 (p:Pt):List AS:=[.ptr p.d 0 0]
theorem c0d (p:Pt):(X2 p).length = 1:=rfl
def fpS (s:Nat) (sp:AS) (ps:List Pt):List Nat:=s::((z7 sp).toList++ps.flatMap (·.fp))
structure StAt (h:H) (s:Nat) (sp:AS) (ps:List Pt) (last code:Int):Prop where
 lt:s < h.next
 blk:h.f s = some ⟨0,[3],true,[sp,ii last,ii code]⟩
 spine:Sl h 1 X2 sp ps
 tabs:∀ p ∈ ps,TabAt h p.d p.t p.fp
 nd:(fpS s sp ps).Nodup
structure Fp (h h':H) (F F':List Nat):Prop where
 next:h.next <= h'.next
 keep:∀ b,b < h.next->b ∉ F->h'.f b = h.f b
 own:∀ b ∈ F',b ∈ F \/ h.next <= b
theorem Fp.trans {h h1 h2:H} {F F1 F2:List Nat} (a:Fp h h1 F F1) (b:Fp h1 h2 F1 F2):Fp h h2 F F2 where
 next:=Nat.le_trans a.next b.next
 keep x hx hn:=by
  rw [b.keep x (oqp hx a.next) fun hc=>?_,a.keep x hx hn]
  rcases a.own x hc with h | h
  ·exact hn h
  ·omega
 own x hx:=by
  rcases b.own x hx with h | h
  ·exact a.own x h
  ·have:=a.next;right;omega
theorem Fp.refl (h:H) (F:List Nat):Fp h h F F:=⟨oqg _,fun _ _ _=>rfl,fun _ hb=>.inl hb⟩
theorem StAt.fp_lt {h:H} {s:Nat} {sp:AS} {ps:List Pt} {last code:Int} (w:StAt h s sp ps last code):∀ b ∈ fpS s sp ps,b < h.next:=by
 intro b hb
 simp only [fpS,oqf,oqe,Option.mem_toList,List.mem_flatMap] at hb
 rcases hb with rfl | hb | ⟨p,hp,hb⟩
 ·exact w.lt
 ·exact w.spine.lt hb
 ·exact (w.tabs p hp).lt b hb
theorem StAt.keep {h h':H} {s:Nat} {sp:AS} {ps:List Pt} {last code:Int} (w:StAt h s sp ps last code) (hn:h.next <= h'.next) (hf:∀ b ∈ fpS s sp ps,h'.f b = h.f b):StAt h' s sp ps last code where
 lt:=oqp w.lt hn
 blk:=by rw [hf s (by simp [fpS])];exact w.blk
 spine:=w.spine.keep hn fun b hb=>hf b (by simp [fpS,hb])
 tabs p hp:=(w.tabs p hp).keep hn fun b hb=>hf b (by simp only [fpS,oqf,oqe,List.mem_flatMap];exact .inr (.inr ⟨p,hp,hb⟩))
 nd:=w.nd
theorem StAt.fp {h h':H} {s:Nat} {sp:AS} {ps:List Pt} {last code:Int} {F F':List Nat} (w:StAt h s sp ps last code) (g:Fp h h' F F') (hd:∀ b ∈ fpS s sp ps,b ∉ F):StAt h' s sp ps last code:=w.keep g.next fun b hb=>g.keep b (w.fp_lt b hb) (hd b hb)
theorem StAt.new {h:H} {s:Nat} {sp:AS} {ps:List Pt} {last code:Int} (w:StAt h s sp ps last code) (k:Blk):StAt (h.new k) s sp ps last code:=w.keep (by simp) fun b hb=>p0 (by have:=w.fp_lt b hb;omega)
theorem StAt.kept {h h':H} {s:Nat} {sp:AS} {ps:List Pt} {last code:Int} (w:StAt h s sp ps last code) (k:Kept h h'):StAt h' s sp ps last code:=w.keep k.1 fun b hb=>k.2 b (w.fp_lt b hb)
theorem c0s {h:H} {sp:AS} {ps:List Pt} (w:Sl h 1 X2 sp ps):(∀ (u:TypeId) (h':H),V9 sp (some (.slice u)) h' = some (one (ii ps.length) h'))/\∀ i (hi:i < ps.length),U7 prog 95 sp i = some (atS 1 sp i)/\K8 h (atS 1 sp i) 1 = some [.ptr ps[i].d 0 0]:=by
 have hs:=w.sees c0d
 have hcl:=A8 c0d ps
 refine ⟨fun u h'=>U4 h' u hs (by omega) hcl,fun i hi=>⟨a0b underlying95 (by simp) hs (by omega) hcl hi, ?_⟩⟩
 rw [a0z hs (by omega) hcl hi,d0F c0d _ hi];rfl
theorem f0a {h:H} {p:Pt} (w:TabAt h p.d p.t p.fp):∃ pr pc,h.f p.d = some ⟨0,[6],true,[.str p.t.span.lo,.str p.t.span.hi,ii p.t.gen,.bool p.t.fr,.ptr pr 0 0,.ptr pc 0 0]⟩/\p.d < h.next:=by
 obtain ⟨pr,pc,qr,qc,h1,h2,_⟩:=w
 exact ⟨pr,pc,h2,h1⟩
set_option maxHeartbeats 4000000
theorem a0w (s:Span):(I5 s).length = 2:=rfl
def b0r:List Span->List Span->Bool
 | _,[]=>true
 | a,x::r=>K4 x && (a.all fun y=>!f0c x y) && b0r (a++[x]) r
def j0F (l:List Span):Bool:=b0r [] l
theorem o0L (h:H) (l:List Span) (n:Nat) (hn:n <= l.length):N4 h 2 (sl 2 I5 (some l)) none (some (.one (ii n))) none = some (sl 2 I5 (some (l.take n))):=by
 have hl:=A8 a0w l
 have h5:n * 2 <= (cat I5 l).length:=by rw [hl];exact Nat.mul_le_mul_right 2 hn
 have hcat:(cat I5 l).take (n * 2) = cat I5 (l.take n):=by
  conv=>lhs;rw [<- List.take_append_drop n l,a0Q]
  rw [List.take_append_of_le_length (by rw [A8 a0w,oqo,Nat.min_eq_left hn];exact oqg _),List.take_of_length_le (by rw [A8 a0w,oqo,Nat.min_eq_left hn];exact oqg _)]
 simp [sl,N4,U8,sub,hn,h5,hcat,Nat.min_eq_left hn]
theorem j0i (l:List Span) (hl:l.length < 1000000):Fun K 31 [.one (sl 2 I5 (some l))] (fun h=>.ret (.one (.bool (j0F l))) h):=by
 have hla:∀ (u:TypeId) (h':H),V9 (sl 2 I5 (some l)) (some (.slice u)) h' = some (one (ii l.length) h'):=fun u h'=>a0C ..
 obtain ⟨B,hB⟩:∃ B,j0F l = B:=⟨_,rfl⟩
 rw [hB]
 have Yb:a0M S.own 31 = false:=by kernel_rfl
 refine ⟨by simp [M5],fun hh=>N2 rfl rfl (by kernel_rfl) func31 rfl (by simp [f31]) ?_⟩
 simp only [f31]
 refine s9 ?_;intro Q1 Y1
 repeat' (first
  | (replace Y1:=Y1;simp [hla])
  | refine Y1 _ _ _ ?_)
 refine I8 hp l (fun a r fr hh=>b0r a r = B/\∃ j:Nat->AV,fr = ((.one (sl 2 I5 (some l)))::j 1::j 2::j 3::j 4::j 5::j 6::(.one (sl 2 I5 (some l)))::(.one (ii l.length))::(.one (ii a.length))::j 10::j 11::j 12::j 13::j 14::j 15::j 16::j 17::j 18::j 19::j 20::j 21::j 22::j 23::j 24::j 25::j 26::j 27::j 28::j 29::[])) ?_ ?_ _ _ ⟨hB,y0 (by simp)⟩
 ·rintro a x r fr hh hll ⟨i1,j,rfl⟩
  have hil:a.length < l.length:=by rw [hll];simp
  have hix:=N6 (P:=prog) (enc:=I5) (s:=2) (l:=l) (i:=a.length) underlying72 (by simp) (by omega) hil
  have hrd:=O9 (enc:=I5) (s:=2) a0w a x r (o:=0) (n:=2) (by omega)
  rw [<- hll] at hrd
  simp only [Nat.add_zero,L4 (a0w _)] at hrd
  have htk:l.take a.length = a:=by rw [hll];simp
  have hsl:∀ h':H,N4 h' 2 (sl 2 I5 (some l)) none (some (.one (ii a.length))) none = some (sl 2 I5 (some a)):=fun h'=>by rw [o0L h' l a.length (by omega),htk]
  have hsz:∀ t:List Span,N7 prog 72 (sl 2 I5 (some t)) = some 2:=fun t=>by simp [sl,N7]
  have hla2:∀ (u:TypeId) (h':H),V9 (sl 2 I5 (some a)) (some (.slice u)) h' = some (one (ii a.length) h'):=fun u h'=>a0C ..
  obtain ⟨xl,xh⟩:=x
  have hR:=a0o xl xh
  simp only [I5] at hrd
  have hw:IntKind.i64.wrap ((a.length:Int) + 1) = ((a++[(⟨xl,xh⟩:Span)]).length:Int):=by rw [S4];exact J1 (by omega)
  have hal:a.length < 1000000:=by omega
  cases hx:K4 ⟨xl,xh⟩ with
  | false =>
   rw [hx] at hR
   have hB2:B = false:=by rw [<- i1];simp [b0r,hx]
   subst hB2
   first | (refine s9 ?_;intro Q2 Y2) | have Y2:=oqk
   repeat' (first
    | (replace Y2:=Y2;simp [hix,hrd,hil,hR])
    | (refine Y2 _ _ _ ?_;clear Y2 Q2;first | simp only [] | simp [hix] | skip)
    | (refine F6 (by assumption) ?_;(try clear Y2);first | simp only [] | simp [A7,A0,z9,c7,u9,Yb] | skip)
    | ((fail_if_success replace Y2:=Y2);(first | refine s9 ?_ | refine A1 ?_ | refine A4 ?_);intro Q2 Y2))
  | true =>
   rw [hx] at hR
   generalize hA2:a++[(⟨xl,xh⟩:Span)] = A2 at *
   first | (refine s9 ?_;intro Q3 Y3) | have Y3:=oqk
   repeat' (first
    | (replace Y3:=Y3;simp [hix,hrd,hil,hsl,hsz,hR,hla2])
    | (refine Y3 _ _ _ ?_;clear Y3 Q3;first | simp only [] | simp [hix,hrd,hil,hsl,hsz,hR,hla2,A7,A0,z9,A5,L9,c7,v9,u9,Yb] | skip)
    | (refine F6 (by assumption) ?_;(try clear Y3);first | simp only [] | simp [hix,hrd,hil,hsl,hsz,hR,hla2,A7,A0,z9,A5,L9,c7,v9,u9,Yb] | skip)
    | ((fail_if_success replace Y3:=Y3);(first | refine s9 ?_ | refine A1 ?_ | refine A4 ?_);intro Q3 Y3))
   refine I8 hp a (fun b b2 fr h2=>(hh.next < h2.next/\h2.f hh.next = some ⟨0,[2],true,[.str xl,.str xh]⟩/\(b.all fun y=>!f0c ⟨xl,xh⟩ y) = true)/\∃ j:Nat->AV,fr = ((.one (sl 2 I5 (some l)))::j 1::j 2::j 3::(.one (.ptr hh.next 0 0))::j 5::j 6::(.one (sl 2 I5 (some l)))::(.one (ii l.length))::(.one (ii a.length))::j 10::j 11::j 12::j 13::j 14::j 15::j 16::j 17::j 18::(.one (sl 2 I5 (some a)))::(.one (ii a.length))::(.one (ii b.length))::j 22::j 23::j 24::j 25::j 26::j 27::j 28::j 29::[])) ?_ ?_ _ _ ?_
   rotate_left 2
   ·exact ⟨⟨by simp,by simp,rfl⟩,y0 (by simp)⟩
   ·rintro b y b2 fr h2 hl2 ⟨⟨j1,j2,j3⟩,j',rfl⟩
    have hil2:b.length < a.length:=by rw [hl2];simp
    have hix2:=N6 (P:=prog) (enc:=I5) (s:=2) (l:=a) (i:=b.length) underlying72 (by simp) (by omega) hil2
    have hrd2:=O9 (enc:=I5) (s:=2) a0w b y b2 (o:=0) (n:=2) (by omega)
    rw [<- hl2] at hrd2
    simp only [Nat.add_zero,L4 (a0w _)] at hrd2
    have hym:y ∈ a:=by rw [hl2];simp
    obtain ⟨yl,yh⟩:=y
    have hM:=r0b xl xh yl yh
    simp only [I5] at hrd2
    have hne:¬ hh.next = h2.next:=by omega
    have hw2:IntKind.i64.wrap ((b.length:Int) + 1) = ((b++[(⟨yl,yh⟩:Span)]).length:Int):=by rw [S4];exact J1 (by omega)
    cases hm:f0c ⟨xl,xh⟩ ⟨yl,yh⟩ with
    | true =>
     rw [hm] at hM
     have hB2:B = false:=by
      rw [<- i1]
      have:(a.all fun y=>!f0c ⟨xl,xh⟩ y) = false:=by rw [List.all_eq_false];exact ⟨_,hym,by simp [hm]⟩
      simp [b0r,this]
     subst hB2
     first | (refine s9 ?_;intro Q4 Y4) | have Y4:=oqk
     repeat' (first
      | (replace Y4:=Y4;simp [hix2,hrd2,hil2,j2,hne,hM])
      | (refine Y4 _ _ _ ?_;clear Y4 Q4;first | simp only [] | simp [hix2] | skip)
      | (refine F6 (by assumption) ?_;(try clear Y4);first | simp only [] | simp [A7,A0,z9,c7,u9,Yb] | skip)
      | ((fail_if_success replace Y4:=Y4);(first | refine s9 ?_ | refine A1 ?_ | refine A4 ?_);intro Q4 Y4))
    | false =>
     rw [hm] at hM
     have hall:((b++[(⟨yl,yh⟩:Span)]).all fun y=>!f0c ⟨xl,xh⟩ y) = true:=by simp only [List.all_append,List.all_cons,List.all_nil,j3,hm];rfl
     generalize hB3:b++[(⟨yl,yh⟩:Span)] = B3 at *
     first | (refine s9 ?_;intro Q5 Y5) | have Y5:=oqk
     repeat' (first
      | (replace Y5:=Y5;simp [hix2,hrd2,hil2,j2,hne,hM,hw2])
      | (refine Y5 _ _ _ ?_;clear Y5 Q5;first | simp only [] | simp [hix2,hrd2,hil2,j2,hne,hM,hw2,A7,A0,z9,A5,L9,c7,v9,u9,Yb] | skip)
      | (refine F6 (by assumption) ?_;(try clear Y5);first | simp only [] | simp [hix2,hrd2,hil2,j2,hne,hM,hw2,A7,A0,z9,A5,L9,c7,v9,u9,Yb] | skip)
      | ((fail_if_success replace Y5:=Y5);(first | refine s9 ?_ | refine A1 ?_ | refine A4 ?_);intro Q5 Y5))
     exact ⟨⟨by simp;omega,by rw [p0 hne];exact j2,hall⟩,y0 (by simp)⟩
   ·rintro fr h2 ⟨⟨j1,j2,j3⟩,j',rfl⟩
    first | (refine s9 ?_;intro Q6 Y6) | have Y6:=oqk
    repeat' (first
     | (replace Y6:=Y6;simp [hw])
     | (refine Y6 _ _ _ ?_;clear Y6 Q6;first | simp only [] | simp [hw,A7,A0,z9,A5,L9,c7,v9,u9,Yb] | skip)
     | (refine F6 (by assumption) ?_;(try clear Y6);first | simp only [] | simp [hw,A7,A0,z9,A5,L9,c7,v9,u9,Yb] | skip)
     | ((fail_if_success replace Y6:=Y6);(first | refine s9 ?_ | refine A1 ?_ | refine A4 ?_);intro Q6 Y6))
    refine ⟨?_,y0 (by simp)⟩
    rw [<- i1,b0r,hx,j3,hA2];rfl
 ·rintro fr hh ⟨i1,j,rfl⟩
  have hB2:B = true:=by rw [<- i1];rfl
  subst hB2
  first | (refine s9 ?_;intro Q7 Y7) | have Y7:=oqk
  repeat' (first
   | (replace Y7:=Y7;simp [A7])
   | (refine Y7 _ _ _ ?_;clear Y7 Q7;first | simp only [] | simp [A7,A0,z9,A5,L9,c7,v9,u9,Yb] | skip)
   | (refine F6 (by assumption) ?_;(try clear Y7);first | simp only [] | simp [A7,A0,z9,c7,u9,Yb] | skip)
   | ((fail_if_success replace Y7:=Y7);(first | refine s9 ?_ | refine A1 ?_ | refine A4 ?_);intro Q7 Y7))
theorem n0S {h:H} {s:Nat} {sp:AS} {ps:List Pt} {last code:Int} (w:StAt h s sp ps last code):W K 20 [.one (.ptr s 0 0)] h = some (.ret (.one (ii last)) h):=by
 have h2:=w.blk
 refine zzD func20 rfl ?_
 simp only [f20]
 intro Q1 Y1
 repeat' (first
  | (replace Y1:=Y1;simp [h2])
  | refine Y1 _ _ _ ?_)
theorem w0J (c:Nat->Option (List AS)) (b v o:Nat):bin prog c .eql 98 (.one (.ptr b v o)) (.one .nilptr) = some (.bool false):=by simp [bin,d0W,a0L]
theorem C0B (c:Nat->Option (List AS)):bin prog c .eql 98 (.one .nilptr) (.one .nilptr) = some (.bool true):=by simp [bin,d0W,a0L]
def b0O (n:BL):Option Pt->List Pt->Option Pt
 | o,[]=>o
 | o,p::ps=>b0O n (if (G9 p.t.span n && (o.isNone || !p.t.fr)) = true then some p else o) ps
def i0X:Option Pt->AS
 | none=>.nilptr
 | some p=>.ptr p.d 0 0
theorem o0l {h:H} {s:Nat} {sp:AS} {ps:List Pt} {last code:Int} (w:StAt h s sp ps last code) (hn:ps.length < 1000000) (n:BL):W K 72 [.one (.ptr s 0 0),.one (.str n)] h = some (.ret (.one (i0X (b0O n none ps))) h):=by
 have h2:=w.blk
 obtain ⟨hla,hget⟩:=c0s w.spine
 obtain ⟨R,hR⟩:∃ R,b0O n none ps = R:=⟨_,rfl⟩
 have key:∃ r,W K 72 [.one (.ptr s 0 0),.one (.str n)] h = some r/\r = .ret (.one (i0X R)) h:=by
  refine zzE func72 rfl ?_
  simp only [f72]
  intro Q2 Y2
  repeat' (first
   | (replace Y2:=Y2;simp [h2,hla])
   | refine Y2 _ _ _ ?_)
  refine I8 hp ps (fun a r fr hh=>(hh = h/\∃ o,b0O n o r = R/\∃ j:Nat->AV,fr = (j 0::(.one (.str n))::j 2::j 3::j 4::(.one (i0X o))::j 6::j 7::j 8::j 9::j 10::(.one sp)::(.one (ii ps.length))::(.one (ii a.length))::j 14::j 15::j 16::j 17::j 18::j 19::j 20::j 21::j 22::j 23::j 24::j 25::j 26::j 27::j 28::j 29::j 30::j 31::j 32::j 33::j 34::j 35::j 36::[]))) ?_ ?_ _ _ ⟨rfl,none,hR,y0 (by simp [i0X])⟩
  ·rintro a x r fr hh hll ⟨rfl,o,ho,j,rfl⟩
   have hil:a.length < ps.length:=by rw [hll];simp
   have hxe:ps[a.length] = x:=by simp only [hll];simp
   obtain ⟨hix,hrd⟩:=hget a.length hil
   rw [hxe] at hrd
   obtain ⟨pr,pc,hxb,hxl⟩:=f0a (w.tabs x (by rw [hll];simp))
   have hH:=g0h x.t.span.lo x.t.span.hi n
   have hw:IntKind.i64.wrap ((a.length:Int) + 1) = ((a++[x]).length:Int):=by rw [S4];exact J1 (by omega)
   simp only [b0O] at ho
   obtain ⟨B,hB⟩:∃ B,G9 ⟨x.t.span.lo,x.t.span.hi⟩ n = B:=⟨_,rfl⟩
   have hB':G9 x.t.span n = B:=hB
   rw [hB] at hH
   rw [hB'] at ho
   obtain ⟨F,hF⟩:∃ F,x.t.fr = F:=⟨_,rfl⟩
   rw [hF] at hxb ho
   generalize hA2:a++[x] = A2 at *
   cases B with
   | false =>
    simp only [Bool.false_and,oqF,if_false] at ho
    first | (refine s9 ?_;intro Q3 Y3) | have Y3:=oqk
    repeat' (first
     | (replace Y3:=Y3;simp [hix,hrd,hxb,hH,hil,hw])
     | (refine Y3 _ _ _ ?_;clear Y3 Q3;first | simp only [] | skip)
     | (refine F6 (by assumption) ?_;(try clear Y3);first | simp only [] | skip)
     | ((fail_if_success replace Y3:=Y3);(first | refine s9 ?_ | refine A1 ?_ | refine A4 ?_);intro Q3 Y3))
    exact ⟨trivial,o,ho,y0 (by simp)⟩
   | true =>
    simp only [Bool.true_and] at ho
    cases o with
    | none =>
     simp only [Option.isNone_none,Bool.true_or,if_true] at ho
     simp only [i0X]
     first | (refine s9 ?_;intro Q4 Y4) | have Y4:=oqk
     repeat' (first
      | (replace Y4:=Y4;simp [C0B,hix,hrd,hxb,hH,hil,hw])
      | (refine Y4 _ _ _ ?_;clear Y4 Q4;first | simp only [] | skip)
      | (refine F6 (by assumption) ?_;(try clear Y4);first | simp only [] | skip)
      | ((fail_if_success replace Y4:=Y4);(first | refine s9 ?_ | refine A1 ?_ | refine A4 ?_);intro Q4 Y4))
     exact ⟨trivial,some x,ho,y0 (by simp [i0X])⟩
    | some y =>
     simp only [Option.isNone_some,Bool.false_or] at ho
     simp only [i0X]
     cases F with
     | true =>
      simp only [Bool.not_true,oqF,if_false] at ho
      first | (refine s9 ?_;intro Q5 Y5) | have Y5:=oqk
      repeat' (first
       | (replace Y5:=Y5;simp [w0J,hix,hrd,hxb,hH,hil,hw])
       | (refine Y5 _ _ _ ?_;clear Y5 Q5;first | simp only [] | skip)
       | (refine F6 (by assumption) ?_;(try clear Y5);first | simp only [] | skip)
       | ((fail_if_success replace Y5:=Y5);(first | refine s9 ?_ | refine A1 ?_ | refine A4 ?_);intro Q5 Y5))
      exact ⟨trivial,some y,ho,y0 (by simp [i0X])⟩
     | false =>
      simp only [Bool.not_false,if_true] at ho
      first | (refine s9 ?_;intro Q6 Y6) | have Y6:=oqk
      repeat' (first
       | (replace Y6:=Y6;simp [w0J,hix,hrd,hxb,hH,hil,hw])
       | (refine Y6 _ _ _ ?_;clear Y6 Q6;first | simp only [] | skip)
       | (refine F6 (by assumption) ?_;(try clear Y6);first | simp only [] | skip)
       | ((fail_if_success replace Y6:=Y6);(first | refine s9 ?_ | refine A1 ?_ | refine A4 ?_);intro Q6 Y6))
      exact ⟨trivial,some x,ho,y0 (by simp [i0X])⟩
  ·rintro fr hh ⟨rfl,o,ho,j,rfl⟩
   simp only [b0O] at ho
   subst ho
   first | (refine s9 ?_;intro Q7 Y7) | have Y7:=oqk
   repeat' (first
    | (replace Y7:=Y7;simp)
    | (refine Y7 _ _ _ ?_;clear Y7 Q7;first | simp only [] | simp | skip)
    | (refine F6 (by assumption) ?_;(try clear Y7);first | simp only [] | simp | skip)
    | ((fail_if_success replace Y7:=Y7);(first | refine s9 ?_ | refine A1 ?_ | refine A4 ?_);intro Q7 Y7))
 obtain ⟨r,e,rfl⟩:=key
 rw [hR]
 exact e
def V2 (t:TabD):Tablet:=⟨t.span,0,t.gen⟩
def d0d (b:Bool) (ts:List TabD):List Tablet:=(ts.filter fun t=>t.fr == b).map V2
theorem B0p {h:H} {s:Nat} {sp:AS} {ps:List Pt} {last code:Int} (w:StAt h s sp ps last code) (hn:ps.length < 1000) (b:Bool):W K 44 [.one (.ptr s 0 0),.one (.bool b)] h = some (.ret (.one (sl 4 I4 (nz (d0d b (ps.map (·.t)))))) h):=by
 have h2:=w.blk
 obtain ⟨hla,hget⟩:=c0s w.spine
 have key:∃ r,W K 44 [.one (.ptr s 0 0),.one (.bool b)] h = some r/\r = .ret (.one (sl 4 I4 (nz (d0d b (ps.map (·.t)))))) h:=by
  refine zzI func44 rfl ?_
  simp only [f44]
  intro Q1 Y1
  repeat' (first
   | (replace Y1:=Y1;simp [h2,hla])
   | refine Y1 _ _ _ ?_
   | refine dF (id:=6) b0H [] ?_)
  refine I8 hp ps (fun a r fr hh=>Kept h hh/\∃ s1,Sl hh 4 I4 s1 (d0d b (a.map (·.t)))/\(s1 = .nilslc \/ d0d b (a.map (·.t)) ≠ [])/\(∀ b,z7 s1 = some b->h.next <= b)/\∃ j:Nat->AV,fr = (j 0::(.one (.bool b))::j 2::j 3::j 4::(.one s1)::j 6::j 7::j 8::j 9::j 10::(.one sp)::(.one (ii ps.length))::(.one (ii a.length))::j 14::j 15::j 16::j 17::j 18::j 19::j 20::j 21::j 22::j 23::j 24::j 25::j 26::j 27::j 28::j 29::j 30::j 31::j 32::j 33::j 34::j 35::j 36::[])) ?_ ?_ _ _ ⟨b0X h,.nilslc,.inl ⟨rfl,rfl⟩,.inl rfl,by simp [z7],y0 (by simp)⟩
  ·rintro a x r fr hh hll ⟨kk,s1,i1,i2,i3,j,rfl⟩
   have hil:a.length < ps.length:=by rw [hll];simp
   have hxe:ps[a.length] = x:=by simp only [hll];simp
   obtain ⟨hla',hget'⟩:=c0s (w.kept kk).spine
   obtain ⟨hix,hrd⟩:=hget' a.length hil
   rw [hxe] at hrd
   obtain ⟨pr,pc,hxb,hxl⟩:=f0a ((w.kept kk).tabs x (by rw [hll];simp))
   have hw:IntKind.i64.wrap ((a.length:Int) + 1) = ((a++[x]).length:Int):=by rw [S4];exact J1 (by omega)
   have hsm:d0d b ((a++[x]).map (·.t)) = d0d b (a.map (·.t))++(if x.t.fr == b then [V2 x.t] else []):=by
    simp only [d0d,List.map_append,List.filter_append,List.map_cons,List.map_nil,List.filter_cons,List.filter_nil]
    split <;> simp
   have hsl:(d0d b (a.map (·.t))).length <= a.length:=by
    simp only [d0d,oqi]
    exact Nat.le_trans (List.length_filter_le _ _) (by simp)
   rw [hsm]
   obtain ⟨F,hF⟩:∃ F,x.t.fr = F:=⟨_,rfl⟩
   rw [hF] at hxb
   rw [hF]
   generalize d0d b (a.map (·.t)) = L at *
   generalize hA2:a++[x] = A2 at *
   have hxn:¬ x.d = hh.next:=by omega
   cases hFb:(F == b) with
   | false =>
    simp only [oqF,if_false,List.append_nil]
    first | (refine s9 ?_;intro Q2 Y2) | have Y2:=oqk
    repeat' (first
     | (replace Y2:=Y2;simp [hix,hrd,hxb,hil,hw,hFb])
     | (refine Y2 _ _ _ ?_;clear Y2 Q2;first | simp only [] | skip)
     | (refine F6 (by assumption) ?_;(try clear Y2);first | simp only [] | skip)
     | ((fail_if_success replace Y2:=Y2);(first | refine s9 ?_ | refine A1 ?_ | refine A4 ?_);intro Q2 Y2)
     | refine dF (id:=6) b0H [] ?_)
    exact ⟨kk,s1,i1,i2,i3,y0 (by simp)⟩
   | true =>
    have i1':Sl (hh.new ⟨0,[4],true,I4 (V2 x.t)⟩) 4 I4 s1 L:=i1.keep (by simp) fun c hc=>p0 (by have:=i1.lt hc;omega)
    obtain ⟨s3,h3,e3,⟨b3,v3,z3,hs3,ar3⟩,k1,k2,k3⟩:=P7 (P:=prog) (t:=25) underlying25 (by simp) (by simp) Tryz.bytes61 (by omega) f0o (a:=.slc hh.next 0 0 1 4 none) (m:=[V2 x.t]) i1' rfl (by simp [C6,cat,sub,I4]) (by simp) (by simp only [oqb,oqc,Nat.zero_add,N3];omega)
    simp only [A6] at k1 k2 k3
    simp only [I4,V2] at e3 k2
    simp only [if_true]
    first | (refine s9 ?_;intro Q3 Y3) | have Y3:=oqk
    repeat' (first
     | (replace Y3:=Y3;simp [hix,hrd,hxb,hil,hw,hFb,e3])
     | (refine Y3 _ _ _ ?_;clear Y3 Q3;first | simp only [] | skip)
     | (refine F6 (by assumption) ?_;(try clear Y3);first | simp only [] | skip)
     | ((fail_if_success replace Y3:=Y3);(first | refine s9 ?_ | refine A1 ?_ | refine A4 ?_);intro Q3 Y3)
     | refine dF (id:=6) b0H [] ?_)
    refine ⟨⟨by have:=kk.1;omega,fun c hc=>?_⟩,s3,.inr ⟨b3,v3,z3,hs3,ar3⟩,.inr (by simp),fun c hc=>?_,y0 (by simp)⟩
    ·have:=kk.1
     rw [k2 c (by omega) (fun e=>by have:=i3 c e;omega),p0 (by omega)];exact kk.2 c hc
    ·have:=kk.1
     rcases k3 c hc with e | e
     ·exact i3 c e
     ·omega
  ·rintro fr hh ⟨kk,s1,i1,i2,i3,j,rfl⟩
   first | (refine s9 ?_;intro Q4 Y4) | have Y4:=oqk
   repeat' (first
    | (replace Y4:=Y4;simp)
    | (refine Y4 _ _ _ ?_;clear Y4 Q4;first | simp only [] | simp | skip)
    | (refine F6 (by assumption) ?_;(try clear Y4);first | simp only [] | simp | skip)
    | ((fail_if_success replace Y4:=Y4);(first | refine s9 ?_ | refine A1 ?_ | refine A4 ?_);intro Q4 Y4)
    | refine dF (id:=6) b0H [] ?_)
   exact n0E f0o j0e i1 i3 i2 kk rfl
 obtain ⟨r,e,rfl⟩:=key
 exact e
theorem x0e {h:H} {s:Nat} {sp:AS} {ps:List Pt} {last code:Int} (w:StAt h s sp ps last code) (hn:ps.length < 1000):W K 16 [.one (.ptr s 0 0)] h = some (.ret (.one (sl 4 I4 (nz (d0d false (ps.map (·.t)))))) h):=by
 have hs:=B0p w hn false
 refine zzD func16 rfl ?_
 simp only [f16]
 intro Q5 Y5
 repeat' (first
  | (replace Y5:=Y5;simp [hs])
  | refine Y5 _ _ _ ?_)
def d0p (ts:List TabD):List Named:=(ts.filter fun t=>!t.fr).flatMap (·.rows)
theorem B0N {h:H} {s:Nat} {sp:AS} {ps:List Pt} {last code:Int} (w:StAt h s sp ps last code) (hn:ps.length < 1000) (ok:∀ p ∈ ps,TblOk p.t.rows):W K 14 [.one (.ptr s 0 0)] h = some (.ret (.one (sl 2 g9 (nz (d0p (ps.map (·.t)))))) h):=by
 have h2:=w.blk
 obtain ⟨hla,hget⟩:=c0s w.spine
 have key:∃ r,W K 14 [.one (.ptr s 0 0)] h = some r/\r = .ret (.one (sl 2 g9 (nz (d0p (ps.map (·.t)))))) h:=by
  refine zzI func14 rfl ?_
  simp only [f14]
  intro Q7 Y7
  repeat' (first
   | (replace Y7:=Y7;simp [h2,hla])
   | refine Y7 _ _ _ ?_)
  refine I8 hp ps (fun a r fr hh=>Kept h hh/\∃ s1,Sl hh 2 g9 s1 (d0p (a.map (·.t)))/\(s1 = .nilslc \/ d0p (a.map (·.t)) ≠ [])/\(∀ b,z7 s1 = some b->h.next <= b)/\(d0p (a.map (·.t))).length <= a.length * 32/\∃ j:Nat->AV,fr = (j 0::j 1::j 2::(.one s1)::j 4::j 5::j 6::j 7::j 8::(.one sp)::(.one (ii ps.length))::(.one (ii a.length))::j 12::j 13::j 14::j 15::j 16::j 17::j 18::j 19::j 20::j 21::j 22::j 23::j 24::j 25::j 26::j 27::j 28::[])) ?_ ?_ _ _ ⟨b0X h,.nilslc,.inl ⟨rfl,rfl⟩,.inl rfl,by simp [z7],by simp [d0p],y0 (by simp)⟩
  ·rintro a x r fr hh hll ⟨kk,s1,i1,i2,i3,i4,j,rfl⟩
   have hil:a.length < ps.length:=by rw [hll];simp
   have hxe:ps[a.length] = x:=by simp only [hll];simp
   have hxm:x ∈ ps:=by rw [hll];simp
   obtain ⟨hla',hget'⟩:=c0s (w.kept kk).spine
   obtain ⟨hix,hrd⟩:=hget' a.length hil
   rw [hxe] at hrd
   obtain ⟨pr,pc,qr,qc,hxl,hxb,br,bc,_⟩:=(w.kept kk).tabs x hxm
   simp only [Y0] at hxb
   have hall:=A0R br (ok x hxm)
   have hx32:=(ok x hxm).len
   have hw:IntKind.i64.wrap ((a.length:Int) + 1) = ((a++[x]).length:Int):=by rw [S4];exact J1 (by omega)
   have hsm:d0p ((a++[x]).map (·.t)) = d0p (a.map (·.t))++(if x.t.fr = true then [] else x.t.rows):=by
    simp only [d0p,List.map_append,List.filter_append,List.map_cons,List.map_nil,List.filter_cons,List.filter_nil]
    cases x.t.fr <;> simp
   rw [hsm]
   have hA3:(a++[x]).length = a.length + 1:=by simp
   obtain ⟨F,hF⟩:∃ F,x.t.fr = F:=⟨_,rfl⟩
   rw [hF] at hxb
   rw [hF]
   generalize d0p (a.map (·.t)) = L at *
   generalize hA2:a++[x] = A2 at *
   generalize x.t.rows = X at *
   cases F with
   | true =>
    simp only [if_true,List.append_nil]
    first | (refine s9 ?_;intro Q8 Y8) | have Y8:=oqk
    repeat' (first
     | (replace Y8:=Y8;simp [hix,hrd,hxb,hil,hw])
     | (refine Y8 _ _ _ ?_;clear Y8 Q8;first | simp only [] | skip)
     | (refine F6 (by assumption) ?_;(try clear Y8);first | simp only [] | skip)
     | ((fail_if_success replace Y8:=Y8);(first | refine s9 ?_ | refine A1 ?_ | refine A4 ?_);intro Q8 Y8))
    exact ⟨kk,s1,i1,i2,i3,by omega,y0 (by simp)⟩
   | false =>
    simp only [oqF,if_false]
    by_cases hX:X = []
    ·subst hX
     have hap:X9 prog 48 48 hh s1 .nilslc = some (s1,hh):=by
      rw [a0p (size:=2) (el:=83) (x:=.nilslc) (m:=0) (new:=[]) (u:=48) (by simp) (by simp) Tryz.bytes83 underlying48 rfl rfl]
      rcases i1 with ⟨rfl,_⟩ | ⟨bb,vv,zz,rfl,_⟩ <;> simp [M8]
     simp only [v0q] at hall
     simp only [List.append_nil]
     first | (refine s9 ?_;intro Q9 Y9) | have Y9:=oqk
     repeat' (first
      | (replace Y9:=Y9;simp [hix,hrd,hxb,hil,hw,hall,hap])
      | (refine Y9 _ _ _ ?_;clear Y9 Q9;first | simp only [] | skip)
      | (refine F6 (by assumption) ?_;(try clear Y9);first | simp only [] | skip)
      | ((fail_if_success replace Y9:=Y9);(first | refine s9 ?_ | refine A1 ?_ | refine A4 ?_);intro Q9 Y9))
     exact ⟨kk,s1,i1,i2,i3,by omega,y0 (by simp)⟩
    ·rw [f0G hX] at hall
     obtain ⟨s3,h3,e3,⟨b3,v3,z3,hs3,ar3⟩,k1,k2,k3⟩:=P7 (P:=prog) (t:=48) underlying48 (by simp) (by simp) Tryz.bytes83 (by omega) C4 (a:=sl 2 g9 (some X)) (m:=X) i1 (by simp [sl,U9]) (l0p C4 (by omega) hh (some X)) hX (by simp only [N3];omega)
     generalize sl 2 g9 (some X) = Z at *
     first | (refine s9 ?_;intro Q10 Y10) | have Y10:=oqk
     repeat' (first
      | (replace Y10:=Y10;simp [hix,hrd,hxb,hil,hw,hall,e3])
      | (refine Y10 _ _ _ ?_;clear Y10 Q10;first | simp only [] | skip)
      | (refine F6 (by assumption) ?_;(try clear Y10);first | simp only [] | skip)
      | ((fail_if_success replace Y10:=Y10);(first | refine s9 ?_ | refine A1 ?_ | refine A4 ?_);intro Q10 Y10))
     refine ⟨⟨by have:=kk.1;omega,fun c hc=>?_⟩,s3,.inr ⟨b3,v3,z3,hs3,ar3⟩,.inr (by simp [hX]),fun c hc=>?_,by simp only [oqa];omega,y0 (by simp)⟩
     ·have:=kk.1
      rw [k2 c (by omega) (fun e=>by have:=i3 c e;omega)];exact kk.2 c hc
     ·have:=kk.1
      rcases k3 c hc with e | e
      ·exact i3 c e
      ·omega
  ·rintro fr hh ⟨kk,s1,i1,i2,i3,i4,j,rfl⟩
   first | (refine s9 ?_;intro Q11 Y11) | have Y11:=oqk
   repeat' (first
    | (replace Y11:=Y11;simp)
    | (refine Y11 _ _ _ ?_;clear Y11 Q11;first | simp only [] | simp | skip)
    | (refine F6 (by assumption) ?_;(try clear Y11);first | simp only [] | simp | skip)
    | ((fail_if_success replace Y11:=Y11);(first | refine s9 ?_ | refine A1 ?_ | refine A4 ?_);intro Q11 Y11))
   exact n0E C4 c0K i1 i3 i2 kk rfl
 obtain ⟨r,e,rfl⟩:=key
 exact e
theorem q0W (r:Row) (c:BL):(Z0 r c).1.kind = 1->(ls (Z0 r c).1.b).length <= 1099511627776:=by
 unfold Z0 i0j
 intro h1
 dsimp only at h1 |-
 split at h1
 ·simp [zV] at h1
 rename_i hc
 rw [if_neg hc]
 cases hf:(ls ((ls (rowCopy r))[S9 (ls (rowCopy r)) c]?.bind (·.l))).find? (fun x=>decide (x.time <= 1099511627776)) with
 | none=>rw [hf] at h1;simp [l0v,zV] at h1
 | some x =>
  rw [hf] at h1
  simp only [l0v] at h1 |-
  have hx:=List.mem_of_find?_eq_some hf
  cases hg:(ls (rowCopy r))[S9 (ls (rowCopy r)) c]? with
  | none=>rw [hg] at hx;simp at hx
  | some y =>
   rw [hg] at hx
   simp only [oqS] at hx
   have hy:=List.mem_of_getElem? hg
   have:=(q0h (P6 r)).2 y hy
   have:=this.2.2 x hx h1
   omega
theorem t0Z {l:List Named} (ok:TblOk l) (n:BL):(ls (b0g l n).1).length < 1000000:=by
 unfold b0g
 split
 ·have:=c0S (P6 ((l[tix l n]?).bind (·.r)));dsimp only;omega
 ·simp
theorem g0j (h:H) (p:Nat) (q:Option Nat):Only h h p q q:=⟨oqg _,fun _ _ _ _=>rfl,.inl rfl⟩
theorem b0d {h h':H} {p:Nat} {q q':Option Nat} {k:Blk} (o:Only (h.new k) h' p q q'):Only h h' p q q' where
 next:=by have:=o.next;simp at this;omega
 keep b hb h1 h2:=by rw [o.keep b (by simp;omega) h1 h2,p0 (by omega)]
 own:=by
  rcases o.own with e | ⟨x,e,hx⟩
  ·exact .inl e
  ·simp at hx;exact .inr ⟨x,e,by omega⟩
theorem i0o (h:H) (a b k k':Blk):(((h.new a).new b).new k).set (h.next + 1 + 1) k' = ((h.new a).new b).new k':=n0R ((h.new a).new b) k k'
theorem x0S {h:H} {d pr:Nat} {qr:Option Nat} {l:List Named} {sp:Span} {gen:Int} {fr:Bool} {pc:AS} (C7:Int) (D5:BL) (L3:BL) (r9:Bool) (l9:Bool) (s8:BL) (c9:Int) (p4:Option BL) (s7:Nat) (o_l:Option (List Change)) (C5:Int) (hd:h.f d = some (Y0 sp gen fr (.ptr pr 0 0) pc)) (hdn:d < h.next) (w:Bx h pr 2 g9 l qr) (ok:TblOk l) (hb:c9 = 1->(ls p4).length <= 1099511627776) :
  ∃ h' q',W K 120 [.one (.ptr d 0 0),.agg [ii C7,.str D5,.str L3,.bool r9,.bool l9,.str s8,ii c9,bs p4,.flt s7,sl 6 l8 o_l,ii C5]] h = some (.ret (.one (ii (f0v l ⟨C7,D5,L3,⟨r9,l9,s8,⟨c9,p4,s7⟩⟩,o_l,C5⟩).2)) h')/\Bx h' pr 2 g9 (f0v l ⟨C7,D5,L3,⟨r9,l9,s8,⟨c9,p4,s7⟩⟩,o_l,C5⟩).1 q'/\Only h h' pr qr q':=by
 obtain ⟨B0,hB0⟩:∃ B:Blk,B = ⟨0,[11],true,[ii C7,.str D5,.str L3,.bool r9,.bool l9,.str s8,ii c9,bs p4,.flt s7,sl 6 l8 o_l,ii C5]⟩:=⟨_,rfl⟩
 have hf1:=s0K (w.new B0) ok D5
 have hrl:=t0Z ok D5
 have hd0:(h.new B0).f d = some (Y0 sp gen fr (.ptr pr 0 0) pc):=by rw [p0 (by omega)];exact hd
 have hne:¬ d = h.next:=by omega
 have hne1:¬ d = h.next + 1:=by omega
 have hne2:¬ d = h.next + 1 + 1:=by omega
 obtain ⟨res,hres⟩:∃ res,f0v l ⟨C7,D5,L3,⟨r9,l9,s8,⟨c9,p4,s7⟩⟩,o_l,C5⟩ = res:=⟨_,rfl⟩
 rw [hres]
 unfold f0v at hres
 simp only at hres
 obtain ⟨R,hR⟩:∃ R,(b0g l D5).1 = R:=⟨_,rfl⟩
 rw [hR] at hres hf1 hrl
 have hH:=y0T R hrl r9 l9 s8 c9 p4 s7 hb (q0W R _)
 have hA:=A0e R hrl o_l
 obtain ⟨B1,hB1⟩:∃ B:Blk,B = ⟨0,[1],true,[sl 2 l7 R]⟩:=⟨_,rfl⟩
 cases hh:holds R ⟨r9,l9,s8,⟨c9,p4,s7⟩⟩ with
 | false =>
  rw [hh] at hres hH
  simp only [if_true] at hres
  subst hres
  refine ⟨(h.new B0).new B1,qr, ?_,(w.new B0).new B1,b0d (b0d (g0j _ _ _))⟩
  rw [hB0] at hf1 |-
  rw [hB1]
  simp only [Y0] at hd
  simp only [J8] at hf1 hA
  refine zzD func120 rfl ?_
  simp only [f120]
  intro Q1 Y1
  repeat' (first
   | (replace Y1:=Y1;simp [hd,hf1,hH,hne,T8])
   | refine Y1 _ _ _ ?_
   | (first | refine dF (id:=1) b0H [] ?_ | refine dF (id:=7) zl9 [] ?_))
 | true =>
  rw [hh] at hres hH
  simp only [Bool.true_eq_false,if_false] at hres
  obtain ⟨A,hAe⟩:∃ A,apply R (ls o_l) = A:=⟨_,rfl⟩
  rw [hAe] at hres hA
  have hAl:(ls A.1).length < 1000000:=by
   rw [<- hAe,<- v0s]
   have:=c0S (P6 (apply R (ls o_l)).1);omega
  obtain ⟨B2,hB2⟩:∃ B:Blk,B = ⟨0,[1],true,[sl 2 l7 A.1]⟩:=⟨_,rfl⟩
  by_cases h0:A.2 = 0
  ·rw [if_pos h0] at hres
   obtain ⟨h',q',e,b,o⟩:=D0a (((w.new B0).new B1).new B2) ok D5 A.1 hAl
   rw [hres] at e b
   refine ⟨h',q', ?_,b,b0d (b0d (b0d o))⟩
   rw [hB0] at hf1 e
   rw [hB1,hB2] at e
   simp only [Y0] at hd
   simp only [J8] at hf1 hA
   rw [h0] at hA
   refine zzD func120 rfl ?_
   simp only [f120]
   intro Q2 Y2
   repeat' (first
    | (replace Y2:=Y2;simp [hd,hf1,hH,hne,hne1,hne2,hA,T8,i0o,e])
    | refine Y2 _ _ _ ?_
    | (first | refine dF (id:=1) b0H [] ?_ | refine dF (id:=7) zl9 [] ?_))
  ·rw [if_neg h0] at hres
   subst hres
   refine ⟨((h.new B0).new B1).new B2,qr, ?_,((w.new B0).new B1).new B2,b0d (b0d (b0d (g0j _ _ _)))⟩
   rw [hB0] at hf1 |-
   rw [hB1,hB2]
   have h0b:(A.2 == 0) = false:=by simp [h0]
   have h0c:(A.2 != 0) = true:=by simp [h0]
   simp only [Y0] at hd
   simp only [J8] at hf1 hA
   refine zzD func120 rfl ?_
   simp only [f120]
   intro Q3 Y3
   repeat' (first
    | (replace Y3:=Y3;simp [hd,hf1,hH,hne,hA,T8,i0o,h0c])
    | refine Y3 _ _ _ ?_
    | (first | refine dF (id:=1) b0H [] ?_ | refine dF (id:=7) zl9 [] ?_))
end Go.Proofs.YtiagcnfmgigllaaGreat
