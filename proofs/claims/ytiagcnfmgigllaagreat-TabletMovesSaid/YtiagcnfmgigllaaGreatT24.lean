/- A part of a proof over the abstract machine. No conditions. -/
import Derived.Test.YtiagcnfmgigllaaGreatC15t
set_option linter.all false
namespace Go.Proofs.YtiagcnfmgigllaaGreat
open Go Go.Ab Wm NumPlain Go.Proofs.Tryz
set_option maxRecDepth 10000
def TabAt (h:H) (d:Nat) (t:TabD) (fp:List Nat):Prop :=
 ∃ pr pc qr qc,d < h.next∧h.f d = some (a0l t.span t.gen t.fr (.ptr pr 0 0) (.ptr pc 0 0))∧Bx h pr 2 c8 t.rows qr∧Bx h pc 3 G9 t.cache qc∧fp = d::pr::pc::(qr.toList++qc.toList)
theorem TabAt.keep {h h':H} {d:Nat} {t:TabD} {fp:List Nat} (a:TabAt h d t fp) (hn:h.next ≤ h'.next) (hf:∀ b ∈ fp,h'.f b = h.f b):TabAt h' d t fp:=by
 obtain ⟨pr,pc,qr,qc,h1,h2,h3,h4,rfl⟩:=a
 exact ⟨pr,pc,qr,qc,by omega,by rw [hf d (by simp)];exact h2,h3.keep hn (hf pr (by simp)) fun b hb=>hf b (by simp [hb]),h4.keep hn (hf pc (by simp)) fun b hb=>hf b (by simp [hb]),rfl⟩
theorem TabAt.lt {h:H} {d:Nat} {t:TabD} {fp:List Nat} (a:TabAt h d t fp):∀ b ∈ fp,b < h.next:=by
 obtain ⟨pr,pc,qr,qc,h1,h2,h3,h4,rfl⟩:=a
 intro b hb
 simp only [oqf,oqe,Option.mem_toList] at hb
 rcases hb with rfl | rfl | rfl | hb | hb
 ·exact h1
 ·exact h3.1
 ·exact h4.1
 ·exact h3.lt hb
 ·exact h4.lt hb
structure Pt where
 d:Nat
 t:TabD
 fp:List Nat
def Z5 (p:Pt):List AS:=[.ptr p.d 0 0]
theorem d0l (p:Pt):(Z5 p).length = 1:=rfl
def fpS (s:Nat) (sp:AS) (ps:List Pt):List Nat:=s::((z0 sp).toList++ps.flatMap (·.fp))
structure StAt (h:H) (s:Nat) (sp:AS) (ps:List Pt) (last code:Int):Prop where
 lt:s < h.next
 blk:h.f s = some ⟨0,[3],true,[sp,ii last,ii code]⟩
 spine:Sl h 1 Z5 sp ps
 tabs:∀ p ∈ ps,TabAt h p.d p.t p.fp
 nd:(fpS s sp ps).Nodup
structure Fp (h h':H) (F F':List Nat):Prop where
 next:h.next ≤ h'.next
 keep:∀ b,b < h.next→b ∉ F→h'.f b = h.f b
 own:∀ b ∈ F',b ∈ F ∨ h.next ≤ b
theorem Fp.trans {h h1 h2:H} {F F1 F2:List Nat} (a:Fp h h1 F F1) (b:Fp h1 h2 F1 F2):Fp h h2 F F2 where
 next:=Nat.le_trans a.next b.next
 keep x hx hn:=by
  rw [b.keep x (oqp hx a.next) fun hc=>?_,a.keep x hx hn]
  rcases a.own x hc with h | h
  ·exact hn h
  ·omega
 own x hx:=by
  rcases b.own x hx with h | h
  ·exact a.own x h
  ·have:=a.next;right;omega
theorem Fp.refl (h:H) (F:List Nat):Fp h h F F:=⟨oqg _,fun _ _ _=>rfl,fun _ hb=>.inl hb⟩
theorem StAt.fp_lt {h:H} {s:Nat} {sp:AS} {ps:List Pt} {last code:Int} (w:StAt h s sp ps last code):∀ b ∈ fpS s sp ps,b < h.next:=by
 intro b hb
 simp only [fpS,oqf,oqe,Option.mem_toList,List.mem_flatMap] at hb
 rcases hb with rfl | hb | ⟨p,hp,hb⟩
 ·exact w.lt
 ·exact w.spine.lt hb
 ·exact (w.tabs p hp).lt b hb
theorem StAt.keep {h h':H} {s:Nat} {sp:AS} {ps:List Pt} {last code:Int} (w:StAt h s sp ps last code) (hn:h.next ≤ h'.next) (hf:∀ b ∈ fpS s sp ps,h'.f b = h.f b):StAt h' s sp ps last code where
 lt:=oqp w.lt hn
 blk:=by rw [hf s (by simp [fpS])];exact w.blk
 spine:=w.spine.keep hn fun b hb=>hf b (by simp [fpS,hb])
 tabs p hp:=(w.tabs p hp).keep hn fun b hb=>hf b (by simp only [fpS,oqf,oqe,List.mem_flatMap];exact .inr (.inr ⟨p,hp,hb⟩))
 nd:=w.nd
theorem StAt.fp {h h':H} {s:Nat} {sp:AS} {ps:List Pt} {last code:Int} {F F':List Nat} (w:StAt h s sp ps last code) (g:Fp h h' F F') (hd:∀ b ∈ fpS s sp ps,b ∉ F):StAt h' s sp ps last code:=w.keep g.next fun b hb=>g.keep b (w.fp_lt b hb) (hd b hb)
theorem StAt.new {h:H} {s:Nat} {sp:AS} {ps:List Pt} {last code:Int} (w:StAt h s sp ps last code) (k:Blk):StAt (h.new k) s sp ps last code:=w.keep (by simp) fun b hb=>u4 (by have:=w.fp_lt b hb;omega)
theorem StAt.kept {h h':H} {s:Nat} {sp:AS} {ps:List Pt} {last code:Int} (w:StAt h s sp ps last code) (k:Kept h h'):StAt h' s sp ps last code:=w.keep k.1 fun b hb=>k.2 b (w.fp_lt b hb)
theorem d0Y {h:H} {sp:AS} {ps:List Pt} (w:Sl h 1 Z5 sp ps):(∀ (u:TypeId) (h':H),O7 sp (some (.slice u)) h' = some (one (ii ps.length) h'))∧∀ i (hi:i < ps.length),S6 prog 95 sp i = some (atS 1 sp i)∧H4 h (atS 1 sp i) 1 = some [.ptr ps[i].d 0 0]:=by
 have hs:=w.sees d0l
 have hcl:=z7 d0l ps
 refine ⟨fun u h'=>O4 h' u hs (by omega) hcl,fun i hi=>⟨W5 underlying95 (by simp) hs (by omega) hcl hi, ?_⟩⟩
 rw [Y9 hs (by omega) hcl hi,c0J d0l _ hi];rfl
theorem f0D {h:H} {p:Pt} (w:TabAt h p.d p.t p.fp):∃ pr pc,h.f p.d = some ⟨0,[6],true,[.str p.t.span.lo,.str p.t.span.hi,ii p.t.gen,.bool p.t.fr,.ptr pr 0 0,.ptr pc 0 0]⟩∧p.d < h.next:=by
 obtain ⟨pr,pc,qr,qc,h1,h2,_⟩:=w
 exact ⟨pr,pc,h2,h1⟩
set_option maxHeartbeats 4000000
theorem a0y (s:Span):(H7 s).length = 2:=rfl
def b0K:List Span→List Span→Bool
 | _,[]=>true
 | a,x::r=>H5 x && (a.all fun y=>!g0h x y) && b0K (a++[x]) r
def r0N (l:List Span):Bool:=b0K [] l
theorem o0b (h:H) (l:List Span) (n:Nat) (hn:n ≤ l.length):J2 h 2 (sl 2 H7 (some l)) none (some (.one (ii n))) none = some (sl 2 H7 (some (l.take n))):=by
 have hl:=z7 a0y l
 have h5:n * 2 ≤ (cat H7 l).length:=by rw [hl];exact Nat.mul_le_mul_right 2 hn
 have hcat:(cat H7 l).take (n * 2) = cat H7 (l.take n):=by
  conv=>lhs;rw [← List.take_append_drop n l,a0m]
  rw [List.take_append_of_le_length (by rw [z7 a0y,oqo,Nat.min_eq_left hn];exact oqg _),List.take_of_length_le (by rw [z7 a0y,oqo,Nat.min_eq_left hn];exact oqg _)]
 simp [sl,J2,P2,sub,hn,h5,hcat,Nat.min_eq_left hn]
theorem o0a (l:List Span) (hl:l.length < 1000000):Fun K 31 [.one (sl 2 H7 (some l))] (fun h=>.ret (.one (.bool (r0N l))) h):=by
 have hla:∀ (u:TypeId) (h':H),O7 (sl 2 H7 (some l)) (some (.slice u)) h' = some (one (ii l.length) h'):=fun u h'=>O8 ..
 obtain ⟨B,hB⟩:∃ B,r0N l = B:=⟨_,rfl⟩
 rw [hB]
 have hown:A8 S.own 31 = false:=by kernel_rfl
 refine ⟨by simp [s7],fun hh=>c6 rfl rfl (by kernel_rfl) func31 rfl (by simp [Tryz.f31]) ?_⟩
 simp only [Tryz.f31]
 refine c7 ?_;intro Q1 hQ1
 repeat' (first
  | (replace hQ1:=hQ1;simp [hla])
  | refine hQ1 _ _ _ ?_)
 refine D5 hp l (fun a r fr hh=>b0K a r = B∧∃ j:Nat→AV,fr = ((.one (sl 2 H7 (some l)))::j 1::j 2::j 3::j 4::j 5::j 6::(.one (sl 2 H7 (some l)))::(.one (ii l.length))::(.one (ii a.length))::j 10::j 11::j 12::j 13::j 14::j 15::j 16::j 17::j 18::j 19::j 20::j 21::j 22::j 23::j 24::j 25::j 26::j 27::j 28::j 29::[])) ?_ ?_ _ _ ⟨hB,s9 (by simp)⟩
 ·rintro a x r fr hh hll ⟨i1,j,rfl⟩
  have hil:a.length < l.length:=by rw [hll];simp
  have hix:=I4 (P:=prog) (enc:=H7) (s:=2) (l:=l) (i:=a.length) underlying72 (by simp) (by omega) hil
  have hrd:=F3 (enc:=H7) (s:=2) a0y a x r (o:=0) (n:=2) (by omega)
  rw [← hll] at hrd
  simp only [Nat.add_zero,I8 (a0y _)] at hrd
  have htk:l.take a.length = a:=by rw [hll];simp
  have hsl:∀ h':H,J2 h' 2 (sl 2 H7 (some l)) none (some (.one (ii a.length))) none = some (sl 2 H7 (some a)):=fun h'=>by rw [o0b h' l a.length (by omega),htk]
  have hsz:∀ t:List Span,K6 prog 72 (sl 2 H7 (some t)) = some 2:=fun t=>by simp [sl,K6]
  have hla2:∀ (u:TypeId) (h':H),O7 (sl 2 H7 (some a)) (some (.slice u)) h' = some (one (ii a.length) h'):=fun u h'=>O8 ..
  obtain ⟨xl,xh⟩:=x
  have hR:=Y0 xl xh
  simp only [H7] at hrd
  have hw:IntKind.i64.wrap ((a.length:Int) + 1) = ((a++[(⟨xl,xh⟩:Span)]).length:Int):=by rw [J9];exact D3 (by omega)
  have hal:a.length < 1000000:=by omega
  cases hx:H5 ⟨xl,xh⟩ with
  | false =>
   rw [hx] at hR
   have hB2:B = false:=by rw [← i1];simp [b0K,hx]
   subst hB2
   first | (refine c7 ?_;intro Q2 hQ2) | have hQ2:=oqk
   repeat' (first
    | (replace hQ2:=hQ2;simp [hix,hrd,hil,hR])
    | (refine hQ2 _ _ _ ?_;clear hQ2 Q2;first | simp only [] | simp [hix] | skip)
    | (refine C5 (by assumption) ?_;(try clear hQ2);first | simp only [] | simp [u6,u5,p9,c5,l5,hown] | skip)
    | ((fail_if_success replace hQ2:=hQ2);(first | refine c7 ?_ | refine y5 ?_ | refine y3 ?_);intro Q2 hQ2))
  | true =>
   rw [hx] at hR
   generalize hA2:a++[(⟨xl,xh⟩:Span)] = A2 at *
   first | (refine c7 ?_;intro Q3 hQ3) | have hQ3:=oqk
   repeat' (first
    | (replace hQ3:=hQ3;simp [hix,hrd,hil,hsl,hsz,hR,hla2])
    | (refine hQ3 _ _ _ ?_;clear hQ3 Q3;first | simp only [] | simp [hix,hrd,hil,hsl,hsz,hR,hla2,u6,u5,p9,s8,H8,c5,l0,l5,hown] | skip)
    | (refine C5 (by assumption) ?_;(try clear hQ3);first | simp only [] | simp [hix,hrd,hil,hsl,hsz,hR,hla2,u6,u5,p9,s8,H8,c5,l0,l5,hown] | skip)
    | ((fail_if_success replace hQ3:=hQ3);(first | refine c7 ?_ | refine y5 ?_ | refine y3 ?_);intro Q3 hQ3))
   refine D5 hp a (fun b b2 fr h2=>(hh.next < h2.next∧h2.f hh.next = some ⟨0,[2],true,[.str xl,.str xh]⟩∧(b.all fun y=>!g0h ⟨xl,xh⟩ y) = true)∧∃ j:Nat→AV,fr = ((.one (sl 2 H7 (some l)))::j 1::j 2::j 3::(.one (.ptr hh.next 0 0))::j 5::j 6::(.one (sl 2 H7 (some l)))::(.one (ii l.length))::(.one (ii a.length))::j 10::j 11::j 12::j 13::j 14::j 15::j 16::j 17::j 18::(.one (sl 2 H7 (some a)))::(.one (ii a.length))::(.one (ii b.length))::j 22::j 23::j 24::j 25::j 26::j 27::j 28::j 29::[])) ?_ ?_ _ _ ?_
   rotate_left 2
   ·exact ⟨⟨by simp,by simp,rfl⟩,s9 (by simp)⟩
   ·rintro b y b2 fr h2 hl2 ⟨⟨j1,j2,j3⟩,j',rfl⟩
    have hil2:b.length < a.length:=by rw [hl2];simp
    have hix2:=I4 (P:=prog) (enc:=H7) (s:=2) (l:=a) (i:=b.length) underlying72 (by simp) (by omega) hil2
    have hrd2:=F3 (enc:=H7) (s:=2) a0y b y b2 (o:=0) (n:=2) (by omega)
    rw [← hl2] at hrd2
    simp only [Nat.add_zero,I8 (a0y _)] at hrd2
    have hym:y ∈ a:=by rw [hl2];simp
    obtain ⟨yl,yh⟩:=y
    have hM:=q0y xl xh yl yh
    simp only [H7] at hrd2
    have hne:¬ hh.next = h2.next:=by omega
    have hw2:IntKind.i64.wrap ((b.length:Int) + 1) = ((b++[(⟨yl,yh⟩:Span)]).length:Int):=by rw [J9];exact D3 (by omega)
    cases hm:g0h ⟨xl,xh⟩ ⟨yl,yh⟩ with
    | true =>
     rw [hm] at hM
     have hB2:B = false:=by
      rw [← i1]
      have:(a.all fun y=>!g0h ⟨xl,xh⟩ y) = false:=by rw [List.all_eq_false];exact ⟨_,hym,by simp [hm]⟩
      simp [b0K,this]
     subst hB2
     first | (refine c7 ?_;intro Q4 hQ4) | have hQ4:=oqk
     repeat' (first
      | (replace hQ4:=hQ4;simp [hix2,hrd2,hil2,j2,hne,hM])
      | (refine hQ4 _ _ _ ?_;clear hQ4 Q4;first | simp only [] | simp [hix2] | skip)
      | (refine C5 (by assumption) ?_;(try clear hQ4);first | simp only [] | simp [u6,u5,p9,c5,l5,hown] | skip)
      | ((fail_if_success replace hQ4:=hQ4);(first | refine c7 ?_ | refine y5 ?_ | refine y3 ?_);intro Q4 hQ4))
    | false =>
     rw [hm] at hM
     have hall:((b++[(⟨yl,yh⟩:Span)]).all fun y=>!g0h ⟨xl,xh⟩ y) = true:=by simp only [List.all_append,List.all_cons,List.all_nil,j3,hm];rfl
     generalize hB3:b++[(⟨yl,yh⟩:Span)] = B3 at *
     first | (refine c7 ?_;intro Q5 hQ5) | have hQ5:=oqk
     repeat' (first
      | (replace hQ5:=hQ5;simp [hix2,hrd2,hil2,j2,hne,hM,hw2])
      | (refine hQ5 _ _ _ ?_;clear hQ5 Q5;first | simp only [] | simp [hix2,hrd2,hil2,j2,hne,hM,hw2,u6,u5,p9,s8,H8,c5,l0,l5,hown] | skip)
      | (refine C5 (by assumption) ?_;(try clear hQ5);first | simp only [] | simp [hix2,hrd2,hil2,j2,hne,hM,hw2,u6,u5,p9,s8,H8,c5,l0,l5,hown] | skip)
      | ((fail_if_success replace hQ5:=hQ5);(first | refine c7 ?_ | refine y5 ?_ | refine y3 ?_);intro Q5 hQ5))
     exact ⟨⟨by simp;omega,by rw [u4 hne];exact j2,hall⟩,s9 (by simp)⟩
   ·rintro fr h2 ⟨⟨j1,j2,j3⟩,j',rfl⟩
    first | (refine c7 ?_;intro Q6 hQ6) | have hQ6:=oqk
    repeat' (first
     | (replace hQ6:=hQ6;simp [hw])
     | (refine hQ6 _ _ _ ?_;clear hQ6 Q6;first | simp only [] | simp [hw,u6,u5,p9,s8,H8,c5,l0,l5,hown] | skip)
     | (refine C5 (by assumption) ?_;(try clear hQ6);first | simp only [] | simp [hw,u6,u5,p9,s8,H8,c5,l0,l5,hown] | skip)
     | ((fail_if_success replace hQ6:=hQ6);(first | refine c7 ?_ | refine y5 ?_ | refine y3 ?_);intro Q6 hQ6))
    refine ⟨?_,s9 (by simp)⟩
    rw [← i1,b0K,hx,j3,hA2];rfl
 ·rintro fr hh ⟨i1,j,rfl⟩
  have hB2:B = true:=by rw [← i1];rfl
  subst hB2
  first | (refine c7 ?_;intro Q7 hQ7) | have hQ7:=oqk
  repeat' (first
   | (replace hQ7:=hQ7;simp [u6])
   | (refine hQ7 _ _ _ ?_;clear hQ7 Q7;first | simp only [] | simp [u6,u5,p9,s8,H8,c5,l0,l5,hown] | skip)
   | (refine C5 (by assumption) ?_;(try clear hQ7);first | simp only [] | simp [u6,u5,p9,c5,l5,hown] | skip)
   | ((fail_if_success replace hQ7:=hQ7);(first | refine c7 ?_ | refine y5 ?_ | refine y3 ?_);intro Q7 hQ7))
theorem p0U {h:H} {s:Nat} {sp:AS} {ps:List Pt} {last code:Int} (w:StAt h s sp ps last code):W K 20 [.one (.ptr s 0 0)] h = some (.ret (.one (ii last)) h):=by
 have h2:=w.blk
 refine A9 hp rfl rfl rfl func20 rfl (by simp [Tryz.f20]) ?_
 simp only [Tryz.f20]
 refine c7 ?_;intro Q1 hQ1
 repeat' (first
  | (replace hQ1:=hQ1;simp [h2])
  | refine hQ1 _ _ _ ?_)
theorem C0H (c:Nat→Option (List AS)) (b v o:Nat):bin prog c .eql 98 (.one (.ptr b v o)) (.one .nilptr) = some (.bool false):=by simp [bin,f0O,a0c]
theorem D0H (c:Nat→Option (List AS)):bin prog c .eql 98 (.one .nilptr) (.one .nilptr) = some (.bool true):=by simp [bin,f0O,a0c]
def d0C (n:BL):Option Pt→List Pt→Option Pt
 | o,[]=>o
 | o,p::ps=>d0C n (if (K8 p.t.span n && (o.isNone || !p.t.fr)) = true then some p else o) ps
def j0W:Option Pt→AS
 | none=>.nilptr
 | some p=>.ptr p.d 0 0
theorem v0F {h:H} {s:Nat} {sp:AS} {ps:List Pt} {last code:Int} (w:StAt h s sp ps last code) (hn:ps.length < 1000000) (n:BL):W K 72 [.one (.ptr s 0 0),.one (.str n)] h = some (.ret (.one (j0W (d0C n none ps))) h):=by
 have h2:=w.blk
 obtain ⟨hla,hget⟩:=d0Y w.spine
 obtain ⟨R,hR⟩:∃ R,d0C n none ps = R:=⟨_,rfl⟩
 have key:∃ r,W K 72 [.one (.ptr s 0 0),.one (.str n)] h = some r∧r = .ret (.one (j0W R)) h:=by
  refine H6 hp rfl rfl rfl func72 rfl (by simp [Tryz.f72]) ?_
  simp only [Tryz.f72]
  refine c7 ?_;intro Q2 hQ2
  repeat' (first
   | (replace hQ2:=hQ2;simp [h2,hla])
   | refine hQ2 _ _ _ ?_)
  refine D5 hp ps (fun a r fr hh=>(hh = h∧∃ o,d0C n o r = R∧∃ j:Nat→AV,fr = (j 0::(.one (.str n))::j 2::j 3::j 4::(.one (j0W o))::j 6::j 7::j 8::j 9::j 10::(.one sp)::(.one (ii ps.length))::(.one (ii a.length))::j 14::j 15::j 16::j 17::j 18::j 19::j 20::j 21::j 22::j 23::j 24::j 25::j 26::j 27::j 28::j 29::j 30::j 31::j 32::j 33::j 34::j 35::j 36::[]))) ?_ ?_ _ _ ⟨rfl,none,hR,s9 (by simp [j0W])⟩
  ·rintro a x r fr hh hll ⟨rfl,o,ho,j,rfl⟩
   have hil:a.length < ps.length:=by rw [hll];simp
   have hxe:ps[a.length] = x:=by simp only [hll];simp
   obtain ⟨hix,hrd⟩:=hget a.length hil
   rw [hxe] at hrd
   obtain ⟨pr,pc,hxb,hxl⟩:=f0D (w.tabs x (by rw [hll];simp))
   have hH:=f0s x.t.span.lo x.t.span.hi n
   have hw:IntKind.i64.wrap ((a.length:Int) + 1) = ((a++[x]).length:Int):=by rw [J9];exact D3 (by omega)
   simp only [d0C] at ho
   obtain ⟨B,hB⟩:∃ B,K8 ⟨x.t.span.lo,x.t.span.hi⟩ n = B:=⟨_,rfl⟩
   have hB':K8 x.t.span n = B:=hB
   rw [hB] at hH
   rw [hB'] at ho
   obtain ⟨F,hF⟩:∃ F,x.t.fr = F:=⟨_,rfl⟩
   rw [hF] at hxb ho
   generalize hA2:a++[x] = A2 at *
   cases B with
   | false =>
    simp only [Bool.false_and,oqF,if_false] at ho
    first | (refine c7 ?_;intro Q3 hQ3) | have hQ3:=oqk
    repeat' (first
     | (replace hQ3:=hQ3;simp [hix,hrd,hxb,hH,hil,hw])
     | (refine hQ3 _ _ _ ?_;clear hQ3 Q3;first | simp only [] | skip)
     | (refine C5 (by assumption) ?_;(try clear hQ3);first | simp only [] | skip)
     | ((fail_if_success replace hQ3:=hQ3);(first | refine c7 ?_ | refine y5 ?_ | refine y3 ?_);intro Q3 hQ3))
    exact ⟨trivial,o,ho,s9 (by simp)⟩
   | true =>
    simp only [Bool.true_and] at ho
    cases o with
    | none =>
     simp only [Option.isNone_none,Bool.true_or,if_true] at ho
     simp only [j0W]
     first | (refine c7 ?_;intro Q4 hQ4) | have hQ4:=oqk
     repeat' (first
      | (replace hQ4:=hQ4;simp [D0H,hix,hrd,hxb,hH,hil,hw])
      | (refine hQ4 _ _ _ ?_;clear hQ4 Q4;first | simp only [] | skip)
      | (refine C5 (by assumption) ?_;(try clear hQ4);first | simp only [] | skip)
      | ((fail_if_success replace hQ4:=hQ4);(first | refine c7 ?_ | refine y5 ?_ | refine y3 ?_);intro Q4 hQ4))
     exact ⟨trivial,some x,ho,s9 (by simp [j0W])⟩
    | some y =>
     simp only [Option.isNone_some,Bool.false_or] at ho
     simp only [j0W]
     cases F with
     | true =>
      simp only [Bool.not_true,oqF,if_false] at ho
      first | (refine c7 ?_;intro Q5 hQ5) | have hQ5:=oqk
      repeat' (first
       | (replace hQ5:=hQ5;simp [C0H,hix,hrd,hxb,hH,hil,hw])
       | (refine hQ5 _ _ _ ?_;clear hQ5 Q5;first | simp only [] | skip)
       | (refine C5 (by assumption) ?_;(try clear hQ5);first | simp only [] | skip)
       | ((fail_if_success replace hQ5:=hQ5);(first | refine c7 ?_ | refine y5 ?_ | refine y3 ?_);intro Q5 hQ5))
      exact ⟨trivial,some y,ho,s9 (by simp [j0W])⟩
     | false =>
      simp only [Bool.not_false,if_true] at ho
      first | (refine c7 ?_;intro Q6 hQ6) | have hQ6:=oqk
      repeat' (first
       | (replace hQ6:=hQ6;simp [C0H,hix,hrd,hxb,hH,hil,hw])
       | (refine hQ6 _ _ _ ?_;clear hQ6 Q6;first | simp only [] | skip)
       | (refine C5 (by assumption) ?_;(try clear hQ6);first | simp only [] | skip)
       | ((fail_if_success replace hQ6:=hQ6);(first | refine c7 ?_ | refine y5 ?_ | refine y3 ?_);intro Q6 hQ6))
      exact ⟨trivial,some x,ho,s9 (by simp [j0W])⟩
  ·rintro fr hh ⟨rfl,o,ho,j,rfl⟩
   simp only [d0C] at ho
   subst ho
   first | (refine c7 ?_;intro Q7 hQ7) | have hQ7:=oqk
   repeat' (first
    | (replace hQ7:=hQ7;simp)
    | (refine hQ7 _ _ _ ?_;clear hQ7 Q7;first | simp only [] | simp | skip)
    | (refine C5 (by assumption) ?_;(try clear hQ7);first | simp only [] | simp | skip)
    | ((fail_if_success replace hQ7:=hQ7);(first | refine c7 ?_ | refine y5 ?_ | refine y3 ?_);intro Q7 hQ7))
 obtain ⟨r,e,rfl⟩:=key
 rw [hR]
 exact e
def b0v (t:TabD):Tablet:=⟨t.span,0,t.gen⟩
def c0V (b:Bool) (ts:List TabD):List Tablet:=(ts.filter fun t=>t.fr == b).map b0v
theorem B0O {h:H} {s:Nat} {sp:AS} {ps:List Pt} {last code:Int} (w:StAt h s sp ps last code) (hn:ps.length < 1000) (b:Bool):W K 44 [.one (.ptr s 0 0),.one (.bool b)] h = some (.ret (.one (sl 4 M7 (nz (c0V b (ps.map (·.t)))))) h):=by
 have h2:=w.blk
 obtain ⟨hla,hget⟩:=d0Y w.spine
 have key:∃ r,W K 44 [.one (.ptr s 0 0),.one (.bool b)] h = some r∧r = .ret (.one (sl 4 M7 (nz (c0V b (ps.map (·.t)))))) h:=by
  refine N4 hp rfl rfl rfl rfl func44 rfl (by simp [Tryz.f44]) ?_
  simp only [Tryz.f44]
  refine c7 ?_;intro Q1 hQ1
  repeat' (first
   | (replace hQ1:=hQ1;simp [h2,hla])
   | refine hQ1 _ _ _ ?_
   | refine dF (id:=6) [0,1,2,3,4,5,6,7,8,9,10,11,12] [] ?_)
  refine D5 hp ps (fun a r fr hh=>Kept h hh∧∃ s1,Sl hh 4 M7 s1 (c0V b (a.map (·.t)))∧(s1 = .nilslc ∨ c0V b (a.map (·.t)) ≠ [])∧(∀ b,z0 s1 = some b→h.next ≤ b)∧∃ j:Nat→AV,fr = (j 0::(.one (.bool b))::j 2::j 3::j 4::(.one s1)::j 6::j 7::j 8::j 9::j 10::(.one sp)::(.one (ii ps.length))::(.one (ii a.length))::j 14::j 15::j 16::j 17::j 18::j 19::j 20::j 21::j 22::j 23::j 24::j 25::j 26::j 27::j 28::j 29::j 30::j 31::j 32::j 33::j 34::j 35::j 36::[])) ?_ ?_ _ _ ⟨b0g h,.nilslc,.inl ⟨rfl,rfl⟩,.inl rfl,by simp [z0],s9 (by simp)⟩
  ·rintro a x r fr hh hll ⟨kk,s1,i1,i2,i3,j,rfl⟩
   have hil:a.length < ps.length:=by rw [hll];simp
   have hxe:ps[a.length] = x:=by simp only [hll];simp
   obtain ⟨hla',hget'⟩:=d0Y (w.kept kk).spine
   obtain ⟨hix,hrd⟩:=hget' a.length hil
   rw [hxe] at hrd
   obtain ⟨pr,pc,hxb,hxl⟩:=f0D ((w.kept kk).tabs x (by rw [hll];simp))
   have hw:IntKind.i64.wrap ((a.length:Int) + 1) = ((a++[x]).length:Int):=by rw [J9];exact D3 (by omega)
   have hsm:c0V b ((a++[x]).map (·.t)) = c0V b (a.map (·.t))++(if x.t.fr == b then [b0v x.t] else []):=by
    simp only [c0V,List.map_append,List.filter_append,List.map_cons,List.map_nil,List.filter_cons,List.filter_nil]
    split <;> simp
   have hsl:(c0V b (a.map (·.t))).length ≤ a.length:=by
    simp only [c0V,oqi]
    exact Nat.le_trans (List.length_filter_le _ _) (by simp)
   rw [hsm]
   obtain ⟨F,hF⟩:∃ F,x.t.fr = F:=⟨_,rfl⟩
   rw [hF] at hxb
   rw [hF]
   generalize c0V b (a.map (·.t)) = L at *
   generalize hA2:a++[x] = A2 at *
   have hxn:¬ x.d = hh.next:=by omega
   cases hFb:(F == b) with
   | false =>
    simp only [oqF,if_false,List.append_nil]
    first | (refine c7 ?_;intro Q2 hQ2) | have hQ2:=oqk
    repeat' (first
     | (replace hQ2:=hQ2;simp [hix,hrd,hxb,hil,hw,hFb])
     | (refine hQ2 _ _ _ ?_;clear hQ2 Q2;first | simp only [] | skip)
     | (refine C5 (by assumption) ?_;(try clear hQ2);first | simp only [] | skip)
     | ((fail_if_success replace hQ2:=hQ2);(first | refine c7 ?_ | refine y5 ?_ | refine y3 ?_);intro Q2 hQ2)
     | refine dF (id:=6) [0,1,2,3,4,5,6,7,8,9,10,11,12] [] ?_)
    exact ⟨kk,s1,i1,i2,i3,s9 (by simp)⟩
   | true =>
    have i1':Sl (hh.new ⟨0,[4],true,M7 (b0v x.t)⟩) 4 M7 s1 L:=i1.keep (by simp) fun c hc=>u4 (by have:=i1.lt hc;omega)
    obtain ⟨s3,h3,e3,⟨b3,v3,z3,hs3,ar3⟩,k1,k2,k3⟩:=N9 (P:=prog) (t:=25) underlying25 (by simp) (by simp) Tryz.bytes61 (by omega) l0a (a:=.slc hh.next 0 0 1 4 none) (m:=[b0v x.t]) i1' rfl (by simp [B8,cat,sub,M7]) (by simp) (by simp only [oqb,oqc,Nat.zero_add,J6];omega)
    simp only [A1] at k1 k2 k3
    simp only [M7,b0v] at e3 k2
    simp only [if_true]
    first | (refine c7 ?_;intro Q3 hQ3) | have hQ3:=oqk
    repeat' (first
     | (replace hQ3:=hQ3;simp [hix,hrd,hxb,hil,hw,hFb,e3])
     | (refine hQ3 _ _ _ ?_;clear hQ3 Q3;first | simp only [] | skip)
     | (refine C5 (by assumption) ?_;(try clear hQ3);first | simp only [] | skip)
     | ((fail_if_success replace hQ3:=hQ3);(first | refine c7 ?_ | refine y5 ?_ | refine y3 ?_);intro Q3 hQ3)
     | refine dF (id:=6) [0,1,2,3,4,5,6,7,8,9,10,11,12] [] ?_)
    refine ⟨⟨by have:=kk.1;omega,fun c hc=>?_⟩,s3,.inr ⟨b3,v3,z3,hs3,ar3⟩,.inr (by simp),fun c hc=>?_,s9 (by simp)⟩
    ·have:=kk.1
     rw [k2 c (by omega) (fun e=>by have:=i3 c e;omega),u4 (by omega)];exact kk.2 c hc
    ·have:=kk.1
     rcases k3 c hc with e | e
     ·exact i3 c e
     ·omega
  ·rintro fr hh ⟨kk,s1,i1,i2,i3,j,rfl⟩
   first | (refine c7 ?_;intro Q4 hQ4) | have hQ4:=oqk
   repeat' (first
    | (replace hQ4:=hQ4;simp)
    | (refine hQ4 _ _ _ ?_;clear hQ4 Q4;first | simp only [] | simp | skip)
    | (refine C5 (by assumption) ?_;(try clear hQ4);first | simp only [] | simp | skip)
    | ((fail_if_success replace hQ4:=hQ4);(first | refine c7 ?_ | refine y5 ?_ | refine y3 ?_);intro Q4 hQ4)
    | refine dF (id:=6) [0,1,2,3,4,5,6,7,8,9,10,11,12] [] ?_)
   exact n0l l0a i0r i1 i3 i2 kk rfl
 obtain ⟨r,e,rfl⟩:=key
 exact e
theorem B0o {h:H} {s:Nat} {sp:AS} {ps:List Pt} {last code:Int} (w:StAt h s sp ps last code) (hn:ps.length < 1000):W K 16 [.one (.ptr s 0 0)] h = some (.ret (.one (sl 4 M7 (nz (c0V false (ps.map (·.t)))))) h):=by
 have hs:=B0O w hn false
 refine A9 hp rfl rfl rfl func16 rfl (by simp [Tryz.f16]) ?_
 simp only [Tryz.f16]
 refine c7 ?_;intro Q5 hQ5
 repeat' (first
  | (replace hQ5:=hQ5;simp [hs])
  | refine hQ5 _ _ _ ?_)
def b0E (ts:List TabD):List Named:=(ts.filter fun t=>!t.fr).flatMap (·.rows)
theorem k0Q {h:H} {s:Nat} {sp:AS} {ps:List Pt} {last code:Int} (w:StAt h s sp ps last code) (hn:ps.length < 1000) (ok:∀ p ∈ ps,TblOk p.t.rows):W K 14 [.one (.ptr s 0 0)] h = some (.ret (.one (sl 2 c8 (nz (b0E (ps.map (·.t)))))) h):=by
 have h2:=w.blk
 obtain ⟨hla,hget⟩:=d0Y w.spine
 have key:∃ r,W K 14 [.one (.ptr s 0 0)] h = some r∧r = .ret (.one (sl 2 c8 (nz (b0E (ps.map (·.t)))))) h:=by
  refine N4 hp rfl rfl rfl rfl func14 rfl (by simp [Tryz.f14]) ?_
  simp only [Tryz.f14]
  refine c7 ?_;intro Q7 hQ7
  repeat' (first
   | (replace hQ7:=hQ7;simp [h2,hla])
   | refine hQ7 _ _ _ ?_)
  refine D5 hp ps (fun a r fr hh=>Kept h hh∧∃ s1,Sl hh 2 c8 s1 (b0E (a.map (·.t)))∧(s1 = .nilslc ∨ b0E (a.map (·.t)) ≠ [])∧(∀ b,z0 s1 = some b→h.next ≤ b)∧(b0E (a.map (·.t))).length ≤ a.length * 32∧∃ j:Nat→AV,fr = (j 0::j 1::j 2::(.one s1)::j 4::j 5::j 6::j 7::j 8::(.one sp)::(.one (ii ps.length))::(.one (ii a.length))::j 12::j 13::j 14::j 15::j 16::j 17::j 18::j 19::j 20::j 21::j 22::j 23::j 24::j 25::j 26::j 27::j 28::[])) ?_ ?_ _ _ ⟨b0g h,.nilslc,.inl ⟨rfl,rfl⟩,.inl rfl,by simp [z0],by simp [b0E],s9 (by simp)⟩
  ·rintro a x r fr hh hll ⟨kk,s1,i1,i2,i3,i4,j,rfl⟩
   have hil:a.length < ps.length:=by rw [hll];simp
   have hxe:ps[a.length] = x:=by simp only [hll];simp
   have hxm:x ∈ ps:=by rw [hll];simp
   obtain ⟨hla',hget'⟩:=d0Y (w.kept kk).spine
   obtain ⟨hix,hrd⟩:=hget' a.length hil
   rw [hxe] at hrd
   obtain ⟨pr,pc,qr,qc,hxl,hxb,br,bc,_⟩:=(w.kept kk).tabs x hxm
   simp only [a0l] at hxb
   have hall:=z0Q br (ok x hxm)
   have hx32:=(ok x hxm).len
   have hw:IntKind.i64.wrap ((a.length:Int) + 1) = ((a++[x]).length:Int):=by rw [J9];exact D3 (by omega)
   have hsm:b0E ((a++[x]).map (·.t)) = b0E (a.map (·.t))++(if x.t.fr = true then [] else x.t.rows):=by
    simp only [b0E,List.map_append,List.filter_append,List.map_cons,List.map_nil,List.filter_cons,List.filter_nil]
    cases x.t.fr <;> simp
   rw [hsm]
   have hA3:(a++[x]).length = a.length + 1:=by simp
   obtain ⟨F,hF⟩:∃ F,x.t.fr = F:=⟨_,rfl⟩
   rw [hF] at hxb
   rw [hF]
   generalize b0E (a.map (·.t)) = L at *
   generalize hA2:a++[x] = A2 at *
   generalize x.t.rows = X at *
   cases F with
   | true =>
    simp only [if_true,List.append_nil]
    first | (refine c7 ?_;intro Q8 hQ8) | have hQ8:=oqk
    repeat' (first
     | (replace hQ8:=hQ8;simp [hix,hrd,hxb,hil,hw])
     | (refine hQ8 _ _ _ ?_;clear hQ8 Q8;first | simp only [] | skip)
     | (refine C5 (by assumption) ?_;(try clear hQ8);first | simp only [] | skip)
     | ((fail_if_success replace hQ8:=hQ8);(first | refine c7 ?_ | refine y5 ?_ | refine y3 ?_);intro Q8 hQ8))
    exact ⟨kk,s1,i1,i2,i3,by omega,s9 (by simp)⟩
   | false =>
    simp only [oqF,if_false]
    by_cases hX:X = []
    ·subst hX
     have hap:S5 prog 48 48 hh s1 .nilslc = some (s1,hh):=by
      rw [V9 (size:=2) (el:=83) (x:=.nilslc) (m:=0) (new:=[]) (u:=48) (by simp) (by simp) Tryz.bytes83 underlying48 rfl rfl]
      rcases i1 with ⟨rfl,_⟩ | ⟨bb,vv,zz,rfl,_⟩ <;> simp [J3]
     simp only [v0f] at hall
     simp only [List.append_nil]
     first | (refine c7 ?_;intro Q9 hQ9) | have hQ9:=oqk
     repeat' (first
      | (replace hQ9:=hQ9;simp [hix,hrd,hxb,hil,hw,hall,hap])
      | (refine hQ9 _ _ _ ?_;clear hQ9 Q9;first | simp only [] | skip)
      | (refine C5 (by assumption) ?_;(try clear hQ9);first | simp only [] | skip)
      | ((fail_if_success replace hQ9:=hQ9);(first | refine c7 ?_ | refine y5 ?_ | refine y3 ?_);intro Q9 hQ9))
     exact ⟨kk,s1,i1,i2,i3,by omega,s9 (by simp)⟩
    ·rw [f0Z hX] at hall
     obtain ⟨s3,h3,e3,⟨b3,v3,z3,hs3,ar3⟩,k1,k2,k3⟩:=N9 (P:=prog) (t:=48) underlying48 (by simp) (by simp) Tryz.bytes83 (by omega) z9 (a:=sl 2 c8 (some X)) (m:=X) i1 (by simp [sl,P5]) (k0p z9 (by omega) hh (some X)) hX (by simp only [J6];omega)
     generalize sl 2 c8 (some X) = Z at *
     first | (refine c7 ?_;intro Q10 hQ10) | have hQ10:=oqk
     repeat' (first
      | (replace hQ10:=hQ10;simp [hix,hrd,hxb,hil,hw,hall,e3])
      | (refine hQ10 _ _ _ ?_;clear hQ10 Q10;first | simp only [] | skip)
      | (refine C5 (by assumption) ?_;(try clear hQ10);first | simp only [] | skip)
      | ((fail_if_success replace hQ10:=hQ10);(first | refine c7 ?_ | refine y5 ?_ | refine y3 ?_);intro Q10 hQ10))
     refine ⟨⟨by have:=kk.1;omega,fun c hc=>?_⟩,s3,.inr ⟨b3,v3,z3,hs3,ar3⟩,.inr (by simp [hX]),fun c hc=>?_,by simp only [oqa];omega,s9 (by simp)⟩
     ·have:=kk.1
      rw [k2 c (by omega) (fun e=>by have:=i3 c e;omega)];exact kk.2 c hc
     ·have:=kk.1
      rcases k3 c hc with e | e
      ·exact i3 c e
      ·omega
  ·rintro fr hh ⟨kk,s1,i1,i2,i3,i4,j,rfl⟩
   first | (refine c7 ?_;intro Q11 hQ11) | have hQ11:=oqk
   repeat' (first
    | (replace hQ11:=hQ11;simp)
    | (refine hQ11 _ _ _ ?_;clear hQ11 Q11;first | simp only [] | simp | skip)
    | (refine C5 (by assumption) ?_;(try clear hQ11);first | simp only [] | simp | skip)
    | ((fail_if_success replace hQ11:=hQ11);(first | refine c7 ?_ | refine y5 ?_ | refine y3 ?_);intro Q11 hQ11))
   exact n0l z9 b0X i1 i3 i2 kk rfl
 obtain ⟨r,e,rfl⟩:=key
 exact e
theorem q0i (r:Row) (c:BL):(M4 r c).1.kind = 1→(ls (M4 r c).1.b).length ≤ 1099511627776:=by
 unfold M4 f0d
 intro h1
 dsimp only at h1 ⊢
 split at h1
 ·simp [zV] at h1
 rename_i hc
 rw [if_neg hc]
 cases hf:(ls ((ls (rowCopy r))[L6 (ls (rowCopy r)) c]?.bind (·.l))).find? (fun x=>decide (x.time ≤ 1099511627776)) with
 | none=>rw [hf] at h1;simp [g0W,zV] at h1
 | some x =>
  rw [hf] at h1
  simp only [g0W] at h1 ⊢
  have hx:=List.mem_of_find?_eq_some hf
  cases hg:(ls (rowCopy r))[L6 (ls (rowCopy r)) c]? with
  | none=>rw [hg] at hx;simp at hx
  | some y =>
   rw [hg] at hx
   simp only [oqS] at hx
   have hy:=List.mem_of_getElem? hg
   have:=(h0j (L5 r)).2 y hy
   have:=this.2.2 x hx h1
   omega
theorem t0K {l:List Named} (ok:TblOk l) (n:BL):(ls (W7 l n).1).length < 1000000:=by
 unfold W7
 split
 ·have:=b0T (L5 ((l[tix l n]?).bind (·.r)));dsimp only;omega
 ·simp
theorem f0x (h:H) (p:Nat) (q:Option Nat):Only h h p q q:=⟨oqg _,fun _ _ _ _=>rfl,.inl rfl⟩
theorem a0x {h h':H} {p:Nat} {q q':Option Nat} {k:Blk} (o:Only (h.new k) h' p q q'):Only h h' p q q' where
 next:=by have:=o.next;simp at this;omega
 keep b hb h1 h2:=by rw [o.keep b (by simp;omega) h1 h2,u4 (by omega)]
 own:=by
  rcases o.own with e | ⟨x,e,hx⟩
  ·exact .inl e
  ·simp at hx;exact .inr ⟨x,e,by omega⟩
theorem k0n (h:H) (a b k k':Blk):(((h.new a).new b).new k).set (h.next + 1 + 1) k' = ((h.new a).new b).new k':=n0D ((h.new a).new b) k k'
theorem x0b {h:H} {d pr:Nat} {qr:Option Nat} {l:List Named} {sp:Span} {gen:Int} {fr:Bool} {pc:AS} (B5:Int) (C7:BL) (I0:BL) (p5:Bool) (l6:Bool) (p4:BL) (i9:Int) (l9:Option BL) (p6:Nat) (o_l:Option (List Change)) (A7:Int) (hd:h.f d = some (a0l sp gen fr (.ptr pr 0 0) pc)) (hdn:d < h.next) (w:Bx h pr 2 c8 l qr) (ok:TblOk l) (hb:i9 = 1→(ls l9).length ≤ 1099511627776) :
  ∃ h' q',W K 120 [.one (.ptr d 0 0),.agg [ii B5,.str C7,.str I0,.bool p5,.bool l6,.str p4,ii i9,bs l9,.flt p6,sl 6 l7 o_l,ii A7]] h = some (.ret (.one (ii (c0t l ⟨B5,C7,I0,⟨p5,l6,p4,⟨i9,l9,p6⟩⟩,o_l,A7⟩).2)) h')∧Bx h' pr 2 c8 (c0t l ⟨B5,C7,I0,⟨p5,l6,p4,⟨i9,l9,p6⟩⟩,o_l,A7⟩).1 q'∧Only h h' pr qr q':=by
 obtain ⟨B0,hB0⟩:∃ B:Blk,B = ⟨0,[11],true,[ii B5,.str C7,.str I0,.bool p5,.bool l6,.str p4,ii i9,bs l9,.flt p6,sl 6 l7 o_l,ii A7]⟩:=⟨_,rfl⟩
 have hf1:=r0Q (w.new B0) ok C7
 have hrl:=t0K ok C7
 have hd0:(h.new B0).f d = some (a0l sp gen fr (.ptr pr 0 0) pc):=by rw [u4 (by omega)];exact hd
 have hne:¬ d = h.next:=by omega
 have hne1:¬ d = h.next + 1:=by omega
 have hne2:¬ d = h.next + 1 + 1:=by omega
 obtain ⟨res,hres⟩:∃ res,c0t l ⟨B5,C7,I0,⟨p5,l6,p4,⟨i9,l9,p6⟩⟩,o_l,A7⟩ = res:=⟨_,rfl⟩
 rw [hres]
 unfold c0t at hres
 simp only at hres
 obtain ⟨R,hR⟩:∃ R,(W7 l C7).1 = R:=⟨_,rfl⟩
 rw [hR] at hres hf1 hrl
 have hH:=z0r R hrl p5 l6 p4 i9 l9 p6 hb (q0i R _)
 have hA:=x0P R hrl o_l
 obtain ⟨B1,hB1⟩:∃ B:Blk,B = ⟨0,[1],true,[sl 2 j9 R]⟩:=⟨_,rfl⟩
 cases hh:holds R ⟨p5,l6,p4,⟨i9,l9,p6⟩⟩ with
 | false =>
  rw [hh] at hres hH
  simp only [if_true] at hres
  subst hres
  refine ⟨(h.new B0).new B1,qr, ?_,(w.new B0).new B1,a0x (a0x (f0x _ _ _))⟩
  rw [hB0] at hf1 ⊢
  rw [hB1]
  simp only [a0l] at hd
  simp only [D6] at hf1 hA
  refine A9 hp rfl rfl rfl func120 rfl (by simp [Tryz.f120]) ?_
  simp only [Tryz.f120]
  refine c7 ?_;intro Q1 hQ1
  repeat' (first
   | (replace hQ1:=hQ1;simp [hd,hf1,hH,hne,P8])
   | refine hQ1 _ _ _ ?_
   | (first | refine dF (id:=1) [0,1,2,3,4,5,6,7,8,9,10,11,12] [] ?_ | refine dF (id:=7) [0,1,2,3,4,5,6,7,8] [] ?_))
 | true =>
  rw [hh] at hres hH
  simp only [Bool.true_eq_false,if_false] at hres
  obtain ⟨A,hAe⟩:∃ A,apply R (ls o_l) = A:=⟨_,rfl⟩
  rw [hAe] at hres hA
  have hAl:(ls A.1).length < 1000000:=by
   rw [← hAe,← v0b]
   have:=b0T (L5 (apply R (ls o_l)).1);omega
  obtain ⟨B2,hB2⟩:∃ B:Blk,B = ⟨0,[1],true,[sl 2 j9 A.1]⟩:=⟨_,rfl⟩
  by_cases h0:A.2 = 0
  ·rw [if_pos h0] at hres
   obtain ⟨h',q',e,b,o⟩:=C0w (((w.new B0).new B1).new B2) ok C7 A.1 hAl
   rw [hres] at e b
   refine ⟨h',q', ?_,b,a0x (a0x (a0x o))⟩
   rw [hB0] at hf1 e
   rw [hB1,hB2] at e
   simp only [a0l] at hd
   simp only [D6] at hf1 hA
   rw [h0] at hA
   refine A9 hp rfl rfl rfl func120 rfl (by simp [Tryz.f120]) ?_
   simp only [Tryz.f120]
   refine c7 ?_;intro Q2 hQ2
   repeat' (first
    | (replace hQ2:=hQ2;simp [hd,hf1,hH,hne,hne1,hne2,hA,P8,k0n,e])
    | refine hQ2 _ _ _ ?_
    | (first | refine dF (id:=1) [0,1,2,3,4,5,6,7,8,9,10,11,12] [] ?_ | refine dF (id:=7) [0,1,2,3,4,5,6,7,8] [] ?_))
  ·rw [if_neg h0] at hres
   subst hres
   refine ⟨((h.new B0).new B1).new B2,qr, ?_,((w.new B0).new B1).new B2,a0x (a0x (a0x (f0x _ _ _)))⟩
   rw [hB0] at hf1 ⊢
   rw [hB1,hB2]
   have h0b:(A.2 == 0) = false:=by simp [h0]
   have h0c:(A.2 != 0) = true:=by simp [h0]
   simp only [a0l] at hd
   simp only [D6] at hf1 hA
   refine A9 hp rfl rfl rfl func120 rfl (by simp [Tryz.f120]) ?_
   simp only [Tryz.f120]
   refine c7 ?_;intro Q3 hQ3
   repeat' (first
    | (replace hQ3:=hQ3;simp [hd,hf1,hH,hne,hA,P8,k0n,h0c])
    | refine hQ3 _ _ _ ?_
    | (first | refine dF (id:=1) [0,1,2,3,4,5,6,7,8,9,10,11,12] [] ?_ | refine dF (id:=7) [0,1,2,3,4,5,6,7,8] [] ?_))
end Go.Proofs.YtiagcnfmgigllaaGreat
