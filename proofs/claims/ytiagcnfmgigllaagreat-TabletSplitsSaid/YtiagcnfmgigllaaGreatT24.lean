/- A part of a proof over the abstract machine. No conditions. -/
import Derived.Test.YtiagcnfmgigllaaGreatT11
set_option linter.unusedSimpArgs false
set_option linter.unnecessarySimpa false
set_option linter.unusedVariables false
namespace Go.Proofs.YtiagcnfmgigllaaGreat
open Go Go.Ab Wm NumPlain
set_option maxRecDepth 10000
def TabAt (h:H) (d:Nat) (t:TabD) (fp:List Nat):Prop :=
 ∃ pr pc qr qc,d < h.next∧h.f d = some (tabB t.span t.gen t.fr (.ptr pr 0 0) (.ptr pc 0 0))∧Bx h pr 2 encNamed t.rows qr∧Bx h pc 3 encTld t.cache qc∧fp = d::pr::pc::(qr.toList++qc.toList)
theorem TabAt.keep {h h':H} {d:Nat} {t:TabD} {fp:List Nat} (a:TabAt h d t fp) (hn:h.next ≤ h'.next) (hf:∀ b ∈ fp,h'.f b = h.f b):TabAt h' d t fp:=by
 obtain ⟨pr,pc,qr,qc,h1,h2,h3,h4,rfl⟩:=a
 exact ⟨pr,pc,qr,qc,by omega,by rw [hf d (by simp)];exact h2,h3.keep hn (hf pr (by simp)) fun b hb=>hf b (by simp [hb]),h4.keep hn (hf pc (by simp)) fun b hb=>hf b (by simp [hb]),rfl⟩
theorem TabAt.lt {h:H} {d:Nat} {t:TabD} {fp:List Nat} (a:TabAt h d t fp):∀ b ∈ fp,b < h.next:=by
 obtain ⟨pr,pc,qr,qc,h1,h2,h3,h4,rfl⟩:=a
 intro b hb
 simp only [List.mem_cons,List.mem_append,Option.mem_toList] at hb
 rcases hb with rfl | rfl | rfl | hb | hb
 ·exact h1
 ·exact h3.1
 ·exact h4.1
 ·exact h3.lt hb
 ·exact h4.lt hb
structure Pt where
 d:Nat
 t:TabD
 fp:List Nat
def encPt (p:Pt):List AS:=[.ptr p.d 0 0]
theorem len_pt (p:Pt):(encPt p).length = 1:=rfl
def fpS (s:Nat) (sp:AS) (ps:List Pt):List Nat:=s::((ownB sp).toList++ps.flatMap (·.fp))
structure StAt (h:H) (s:Nat) (sp:AS) (ps:List Pt) (last code:Int):Prop where
 lt:s < h.next
 blk:h.f s = some ⟨0,[3],true,[sp,ii last,ii code]⟩
 spine:Sl h 1 encPt sp ps
 tabs:∀ p ∈ ps,TabAt h p.d p.t p.fp
 nd:(fpS s sp ps).Nodup
structure Fp (h h':H) (F F':List Nat):Prop where
 next:h.next ≤ h'.next
 keep:∀ b,b < h.next→b ∉ F→h'.f b = h.f b
 own:∀ b ∈ F',b ∈ F ∨ h.next ≤ b
theorem Fp.trans {h h1 h2:H} {F F1 F2:List Nat} (a:Fp h h1 F F1) (b:Fp h1 h2 F1 F2):Fp h h2 F F2 where
 next:=Nat.le_trans a.next b.next
 keep x hx hn:=by
  rw [b.keep x (Nat.lt_of_lt_of_le hx a.next) fun hc=>?_,a.keep x hx hn]
  rcases a.own x hc with h | h
  ·exact hn h
  ·omega
 own x hx:=by
  rcases b.own x hx with h | h
  ·exact a.own x h
  ·have:=a.next;right;omega
theorem Fp.refl (h:H) (F:List Nat):Fp h h F F:=⟨Nat.le_refl _,fun _ _ _=>rfl,fun _ hb=>.inl hb⟩
theorem StAt.fp_lt {h:H} {s:Nat} {sp:AS} {ps:List Pt} {last code:Int} (w:StAt h s sp ps last code):∀ b ∈ fpS s sp ps,b < h.next:=by
 intro b hb
 simp only [fpS,List.mem_cons,List.mem_append,Option.mem_toList,List.mem_flatMap] at hb
 rcases hb with rfl | hb | ⟨p,hp,hb⟩
 ·exact w.lt
 ·exact w.spine.lt hb
 ·exact (w.tabs p hp).lt b hb
theorem StAt.keep {h h':H} {s:Nat} {sp:AS} {ps:List Pt} {last code:Int} (w:StAt h s sp ps last code) (hn:h.next ≤ h'.next) (hf:∀ b ∈ fpS s sp ps,h'.f b = h.f b):StAt h' s sp ps last code where
 lt:=Nat.lt_of_lt_of_le w.lt hn
 blk:=by rw [hf s (by simp [fpS])];exact w.blk
 spine:=w.spine.keep hn fun b hb=>hf b (by simp [fpS,hb])
 tabs p hp:=(w.tabs p hp).keep hn fun b hb=>hf b (by simp only [fpS,List.mem_cons,List.mem_append,List.mem_flatMap];exact .inr (.inr ⟨p,hp,hb⟩))
 nd:=w.nd
theorem StAt.fp {h h':H} {s:Nat} {sp:AS} {ps:List Pt} {last code:Int} {F F':List Nat} (w:StAt h s sp ps last code) (g:Fp h h' F F') (hd:∀ b ∈ fpS s sp ps,b ∉ F):StAt h' s sp ps last code:=w.keep g.next fun b hb=>g.keep b (w.fp_lt b hb) (hd b hb)
theorem StAt.new {h:H} {s:Nat} {sp:AS} {ps:List Pt} {last code:Int} (w:StAt h s sp ps last code) (k:Blk):StAt (h.new k) s sp ps last code:=w.keep (by simp) fun b hb=>new_f (by have:=w.fp_lt b hb;omega)
theorem StAt.kept {h h':H} {s:Nat} {sp:AS} {ps:List Pt} {last code:Int} (w:StAt h s sp ps last code) (k:Kept h h'):StAt h' s sp ps last code:=w.keep k.1 fun b hb=>k.2 b (w.fp_lt b hb)
theorem pt_get {h:H} {sp:AS} {ps:List Pt} (w:Sl h 1 encPt sp ps):(∀ (u:TypeId) (h':H),lenA sp (some (.slice u)) h' = some (one (ii ps.length) h'))∧∀ i (hi:i < ps.length),indexA Tryz.prog 95 sp i = some (atS 1 sp i)∧readC h (atS 1 sp i) 1 = some [.ptr ps[i].d 0 0]:=by
 have hs:=w.sees len_pt
 have hcl:=flat_length len_pt ps
 refine ⟨fun u h'=>lenA_sees h' u hs (by omega) hcl,fun i hi=>⟨sees_index Tryz.underlying95 (by simp) hs (by omega) hcl hi, ?_⟩⟩
 rw [sees_read hs (by omega) hcl hi,cat_at len_pt _ hi];rfl
theorem tab_get {h:H} {p:Pt} (w:TabAt h p.d p.t p.fp):∃ pr pc,h.f p.d = some ⟨0,[6],true,[.str p.t.span.lo,.str p.t.span.hi,ii p.t.gen,.bool p.t.fr,.ptr pr 0 0,.ptr pc 0 0]⟩∧p.d < h.next:=by
 obtain ⟨pr,pc,qr,qc,h1,h2,_⟩:=w
 exact ⟨pr,pc,h2,h1⟩
set_option maxHeartbeats 4000000
theorem len_span (s:Span):(encSpan s).length = 2:=rfl
def apartFrom:List Span→List Span→Bool
 | _,[]=>true
 | a,x::r=>spanOk x && (a.all fun y=>!meetOk x y) && apartFrom (a++[x]) r
def apartOk (l:List Span):Bool:=apartFrom [] l
theorem slice_spans (h:H) (l:List Span) (n:Nat) (hn:n ≤ l.length):sliceA h 2 (sl 2 encSpan (some l)) none (some (.one (ii n))) none = some (sl 2 encSpan (some (l.take n))):=by
 have hl:=flat_length len_span l
 have h5:n * 2 ≤ (cat encSpan l).length:=by rw [hl];exact Nat.mul_le_mul_right 2 hn
 have hcat:(cat encSpan l).take (n * 2) = cat encSpan (l.take n):=by
  conv=>lhs;rw [← List.take_append_drop n l,cat_app]
  rw [List.take_append_of_le_length (by rw [flat_length len_span,List.length_take,Nat.min_eq_left hn];exact Nat.le_refl _),List.take_of_length_le (by rw [flat_length len_span,List.length_take,Nat.min_eq_left hn];exact Nat.le_refl _)]
 simp [sl,sliceA,bound,sub,hn,h5,hcat,Nat.min_eq_left hn]
theorem spanApart_g (l:List Span) (hl:l.length < 1000000):Fun K 31 [.one (sl 2 encSpan (some l))] (fun h=>.ret (.one (.bool (apartOk l))) h):=by
 have hla:∀ (u:TypeId) (h':H),lenA (sl 2 encSpan (some l)) (some (.slice u)) h' = some (one (ii l.length) h'):=fun u h'=>lenA_sl ..
 obtain ⟨B,hB⟩:∃ B,apartOk l = B:=⟨_,rfl⟩
 rw [hB]
 have hown:memL S.own 31 = false:=by kernel_rfl
 refine ⟨by simp [pureV],fun hh=>apart_does rfl rfl (by kernel_rfl) Tryz.func31 rfl (by simp [Tryz.f31]) ?_⟩
 simp only [Tryz.f31]
 refine hide ?_;intro Q1 hQ1
 repeat' (first
  | (replace hQ1:=hQ1;simp [hla])
  | refine hQ1 _ _ _ ?_)
 refine does_each hp l (fun a r fr hh=>apartFrom a r = B∧∃ j:Nat→AV,fr = ((.one (sl 2 encSpan (some l)))::j 1::j 2::j 3::j 4::j 5::j 6::(.one (sl 2 encSpan (some l)))::(.one (ii l.length))::(.one (ii a.length))::j 10::j 11::j 12::j 13::j 14::j 15::j 16::j 17::j 18::j 19::j 20::j 21::j 22::j 23::j 24::j 25::j 26::j 27::j 28::j 29::[])) ?_ ?_ _ _ ⟨hB,ex_get' (by simp)⟩
 ·rintro a x r fr hh hll ⟨i1,j,rfl⟩
  have hil:a.length < l.length:=by rw [hll];simp
  have hix:=index_sl (P:=Tryz.prog) (enc:=encSpan) (s:=2) (l:=l) (i:=a.length) Tryz.underlying72 (by simp) (by omega) hil
  have hrd:=sub_flat (enc:=encSpan) (s:=2) len_span a x r (o:=0) (n:=2) (by omega)
  rw [← hll] at hrd
  simp only [Nat.add_zero,sub_all (len_span _)] at hrd
  have htk:l.take a.length = a:=by rw [hll];simp
  have hsl:∀ h':H,sliceA h' 2 (sl 2 encSpan (some l)) none (some (.one (ii a.length))) none = some (sl 2 encSpan (some a)):=fun h'=>by rw [slice_spans h' l a.length (by omega),htk]
  have hsz:∀ t:List Span,sliceSize Tryz.prog 72 (sl 2 encSpan (some t)) = some 2:=fun t=>by simp [sl,sliceSize]
  have hla2:∀ (u:TypeId) (h':H),lenA (sl 2 encSpan (some a)) (some (.slice u)) h' = some (one (ii a.length) h'):=fun u h'=>lenA_sl ..
  obtain ⟨xl,xh⟩:=x
  have hR:=spanRight_c xl xh
  simp only [encSpan] at hrd
  have hw:IntKind.i64.wrap ((a.length:Int) + 1) = ((a++[(⟨xl,xh⟩:Span)]).length:Int):=by rw [step_len];exact step_wrap (by omega)
  have hal:a.length < 1000000:=by omega
  cases hx:spanOk ⟨xl,xh⟩ with
  | false =>
   rw [hx] at hR
   have hB2:B = false:=by rw [← i1];simp [apartFrom,hx]
   subst hB2
   first | (refine hide ?_;intro Q2 hQ2) | have hQ2:=True.intro
   repeat' (first
    | (replace hQ2:=hQ2;simp [hix,hrd,hil,hR])
    | (refine hQ2 _ _ _ ?_;clear hQ2 Q2;first | simp only [] | simp [hix] | skip)
    | (refine hadQ (by assumption) ?_;(try clear hQ2);first | simp only [] | simp [outV,frzV,frzS,pureS,K_own,hown] | skip)
    | ((fail_if_success replace hQ2:=hQ2);(first | refine hide ?_ | refine hideS ?_ | refine hideB ?_);intro Q2 hQ2))
  | true =>
   rw [hx] at hR
   generalize hA2:a++[(⟨xl,xh⟩:Span)] = A2 at *
   first | (refine hide ?_;intro Q3 hQ3) | have hQ3:=True.intro
   repeat' (first
    | (replace hQ3:=hQ3;simp [hix,hrd,hil,hsl,hsz,hR,hla2])
    | (refine hQ3 _ _ _ ?_;clear hQ3 Q3;first | simp only [] | simp [hix,hrd,hil,hsl,hsz,hR,hla2,outV,frzV,frzS,frzS_pure,frzP,pureS,pureL,K_own,hown] | skip)
    | (refine hadQ (by assumption) ?_;(try clear hQ3);first | simp only [] | simp [hix,hrd,hil,hsl,hsz,hR,hla2,outV,frzV,frzS,frzS_pure,frzP,pureS,pureL,K_own,hown] | skip)
    | ((fail_if_success replace hQ3:=hQ3);(first | refine hide ?_ | refine hideS ?_ | refine hideB ?_);intro Q3 hQ3))
   refine does_each hp a (fun b b2 fr h2=>(hh.next < h2.next∧h2.f hh.next = some ⟨0,[2],true,[.str xl,.str xh]⟩∧(b.all fun y=>!meetOk ⟨xl,xh⟩ y) = true)∧∃ j:Nat→AV,fr = ((.one (sl 2 encSpan (some l)))::j 1::j 2::j 3::(.one (.ptr hh.next 0 0))::j 5::j 6::(.one (sl 2 encSpan (some l)))::(.one (ii l.length))::(.one (ii a.length))::j 10::j 11::j 12::j 13::j 14::j 15::j 16::j 17::j 18::(.one (sl 2 encSpan (some a)))::(.one (ii a.length))::(.one (ii b.length))::j 22::j 23::j 24::j 25::j 26::j 27::j 28::j 29::[])) ?_ ?_ _ _ ?_
   rotate_left 2
   ·exact ⟨⟨by simp,by simp,rfl⟩,ex_get' (by simp)⟩
   ·rintro b y b2 fr h2 hl2 ⟨⟨j1,j2,j3⟩,j',rfl⟩
    have hil2:b.length < a.length:=by rw [hl2];simp
    have hix2:=index_sl (P:=Tryz.prog) (enc:=encSpan) (s:=2) (l:=a) (i:=b.length) Tryz.underlying72 (by simp) (by omega) hil2
    have hrd2:=sub_flat (enc:=encSpan) (s:=2) len_span b y b2 (o:=0) (n:=2) (by omega)
    rw [← hl2] at hrd2
    simp only [Nat.add_zero,sub_all (len_span _)] at hrd2
    have hym:y ∈ a:=by rw [hl2];simp
    obtain ⟨yl,yh⟩:=y
    have hM:=spanMeet_c xl xh yl yh
    simp only [encSpan] at hrd2
    have hne:¬ hh.next = h2.next:=by omega
    have hw2:IntKind.i64.wrap ((b.length:Int) + 1) = ((b++[(⟨yl,yh⟩:Span)]).length:Int):=by rw [step_len];exact step_wrap (by omega)
    cases hm:meetOk ⟨xl,xh⟩ ⟨yl,yh⟩ with
    | true =>
     rw [hm] at hM
     have hB2:B = false:=by
      rw [← i1]
      have:(a.all fun y=>!meetOk ⟨xl,xh⟩ y) = false:=by rw [List.all_eq_false];exact ⟨_,hym,by simp [hm]⟩
      simp [apartFrom,this]
     subst hB2
     first | (refine hide ?_;intro Q4 hQ4) | have hQ4:=True.intro
     repeat' (first
      | (replace hQ4:=hQ4;simp [hix2,hrd2,hil2,j2,hne,hM])
      | (refine hQ4 _ _ _ ?_;clear hQ4 Q4;first | simp only [] | simp [hix2] | skip)
      | (refine hadQ (by assumption) ?_;(try clear hQ4);first | simp only [] | simp [outV,frzV,frzS,pureS,K_own,hown] | skip)
      | ((fail_if_success replace hQ4:=hQ4);(first | refine hide ?_ | refine hideS ?_ | refine hideB ?_);intro Q4 hQ4))
    | false =>
     rw [hm] at hM
     have hall:((b++[(⟨yl,yh⟩:Span)]).all fun y=>!meetOk ⟨xl,xh⟩ y) = true:=by simp only [List.all_append,List.all_cons,List.all_nil,j3,hm];rfl
     generalize hB3:b++[(⟨yl,yh⟩:Span)] = B3 at *
     first | (refine hide ?_;intro Q5 hQ5) | have hQ5:=True.intro
     repeat' (first
      | (replace hQ5:=hQ5;simp [hix2,hrd2,hil2,j2,hne,hM,hw2])
      | (refine hQ5 _ _ _ ?_;clear hQ5 Q5;first | simp only [] | simp [hix2,hrd2,hil2,j2,hne,hM,hw2,outV,frzV,frzS,frzS_pure,frzP,pureS,pureL,K_own,hown] | skip)
      | (refine hadQ (by assumption) ?_;(try clear hQ5);first | simp only [] | simp [hix2,hrd2,hil2,j2,hne,hM,hw2,outV,frzV,frzS,frzS_pure,frzP,pureS,pureL,K_own,hown] | skip)
      | ((fail_if_success replace hQ5:=hQ5);(first | refine hide ?_ | refine hideS ?_ | refine hideB ?_);intro Q5 hQ5))
     exact ⟨⟨by simp;omega,by rw [new_f hne];exact j2,hall⟩,ex_get' (by simp)⟩
   ·rintro fr h2 ⟨⟨j1,j2,j3⟩,j',rfl⟩
    first | (refine hide ?_;intro Q6 hQ6) | have hQ6:=True.intro
    repeat' (first
     | (replace hQ6:=hQ6;simp [hw])
     | (refine hQ6 _ _ _ ?_;clear hQ6 Q6;first | simp only [] | simp [hw,outV,frzV,frzS,frzS_pure,frzP,pureS,pureL,K_own,hown] | skip)
     | (refine hadQ (by assumption) ?_;(try clear hQ6);first | simp only [] | simp [hw,outV,frzV,frzS,frzS_pure,frzP,pureS,pureL,K_own,hown] | skip)
     | ((fail_if_success replace hQ6:=hQ6);(first | refine hide ?_ | refine hideS ?_ | refine hideB ?_);intro Q6 hQ6))
    refine ⟨?_,ex_get' (by simp)⟩
    rw [← i1,apartFrom,hx,j3,hA2];rfl
 ·rintro fr hh ⟨i1,j,rfl⟩
  have hB2:B = true:=by rw [← i1];rfl
  subst hB2
  first | (refine hide ?_;intro Q7 hQ7) | have hQ7:=True.intro
  repeat' (first
   | (replace hQ7:=hQ7;simp [outV])
   | (refine hQ7 _ _ _ ?_;clear hQ7 Q7;first | simp only [] | simp [outV,frzV,frzS,frzS_pure,frzP,pureS,pureL,K_own,hown] | skip)
   | (refine hadQ (by assumption) ?_;(try clear hQ7);first | simp only [] | simp [outV,frzV,frzS,pureS,K_own,hown] | skip)
   | ((fail_if_success replace hQ7:=hQ7);(first | refine hide ?_ | refine hideS ?_ | refine hideB ?_);intro Q7 hQ7))
theorem last_c {h:H} {s:Nat} {sp:AS} {ps:List Pt} {last code:Int} (w:StAt h s sp ps last code):W K 20 [.one (.ptr s 0 0)] h = some (.ret (.one (ii last)) h):=by
 have h2:=w.blk
 refine W_does hp rfl rfl rfl Tryz.func20 rfl (by simp [Tryz.f20]) ?_
 simp only [Tryz.f20]
 refine hide ?_;intro Q1 hQ1
 repeat' (first
  | (replace hQ1:=hQ1;simp [h2])
  | refine hQ1 _ _ _ ?_)
theorem nil1 (c:Nat→Option (List AS)) (b v o:Nat):bin Tryz.prog c .eql 98 (.one (.ptr b v o)) (.one .nilptr) = some (.bool false):=by simp [bin,ford,equalA]
theorem nil3 (c:Nat→Option (List AS)):bin Tryz.prog c .eql 98 (.one .nilptr) (.one .nilptr) = some (.bool true):=by simp [bin,ford,equalA]
def findP (n:BL):Option Pt→List Pt→Option Pt
 | o,[]=>o
 | o,p::ps=>findP n (if (hasName p.t.span n && (o.isNone || !p.t.fr)) = true then some p else o) ps
def ptrO:Option Pt→AS
 | none=>.nilptr
 | some p=>.ptr p.d 0 0
theorem find_c {h:H} {s:Nat} {sp:AS} {ps:List Pt} {last code:Int} (w:StAt h s sp ps last code) (hn:ps.length < 1000000) (n:BL):W K 72 [.one (.ptr s 0 0),.one (.str n)] h = some (.ret (.one (ptrO (findP n none ps))) h):=by
 have h2:=w.blk
 obtain ⟨hla,hget⟩:=pt_get w.spine
 obtain ⟨R,hR⟩:∃ R,findP n none ps = R:=⟨_,rfl⟩
 have key:∃ r,W K 72 [.one (.ptr s 0 0),.one (.str n)] h = some r∧r = .ret (.one (ptrO R)) h:=by
  refine W_doesQ hp rfl rfl rfl Tryz.func72 rfl (by simp [Tryz.f72]) ?_
  simp only [Tryz.f72]
  refine hide ?_;intro Q2 hQ2
  repeat' (first
   | (replace hQ2:=hQ2;simp [h2,hla])
   | refine hQ2 _ _ _ ?_)
  refine does_each hp ps (fun a r fr hh=>(hh = h∧∃ o,findP n o r = R∧∃ j:Nat→AV,fr = (j 0::(.one (.str n))::j 2::j 3::j 4::(.one (ptrO o))::j 6::j 7::j 8::j 9::j 10::(.one sp)::(.one (ii ps.length))::(.one (ii a.length))::j 14::j 15::j 16::j 17::j 18::j 19::j 20::j 21::j 22::j 23::j 24::j 25::j 26::j 27::j 28::j 29::j 30::j 31::j 32::j 33::j 34::j 35::j 36::[]))) ?_ ?_ _ _ ⟨rfl,none,hR,ex_get' (by simp [ptrO])⟩
  ·rintro a x r fr hh hll ⟨rfl,o,ho,j,rfl⟩
   have hil:a.length < ps.length:=by rw [hll];simp
   have hxe:ps[a.length] = x:=by simp only [hll];simp
   obtain ⟨hix,hrd⟩:=hget a.length hil
   rw [hxe] at hrd
   obtain ⟨pr,pc,hxb,hxl⟩:=tab_get (w.tabs x (by rw [hll];simp))
   have hH:=spanHas_c x.t.span.lo x.t.span.hi n
   have hw:IntKind.i64.wrap ((a.length:Int) + 1) = ((a++[x]).length:Int):=by rw [step_len];exact step_wrap (by omega)
   simp only [findP] at ho
   obtain ⟨B,hB⟩:∃ B,hasName ⟨x.t.span.lo,x.t.span.hi⟩ n = B:=⟨_,rfl⟩
   have hB':hasName x.t.span n = B:=hB
   rw [hB] at hH
   rw [hB'] at ho
   obtain ⟨F,hF⟩:∃ F,x.t.fr = F:=⟨_,rfl⟩
   rw [hF] at hxb ho
   generalize hA2:a++[x] = A2 at *
   cases B with
   | false =>
    simp only [Bool.false_and,oqF,if_false] at ho
    first | (refine hide ?_;intro Q3 hQ3) | have hQ3:=True.intro
    repeat' (first
     | (replace hQ3:=hQ3;simp [hix,hrd,hxb,hH,hil,hw])
     | (refine hQ3 _ _ _ ?_;clear hQ3 Q3;first | simp only [] | skip)
     | (refine hadQ (by assumption) ?_;(try clear hQ3);first | simp only [] | skip)
     | ((fail_if_success replace hQ3:=hQ3);(first | refine hide ?_ | refine hideS ?_ | refine hideB ?_);intro Q3 hQ3))
    exact ⟨trivial,o,ho,ex_get' (by simp)⟩
   | true =>
    simp only [Bool.true_and] at ho
    cases o with
    | none =>
     simp only [Option.isNone_none,Bool.true_or,if_true] at ho
     simp only [ptrO]
     first | (refine hide ?_;intro Q4 hQ4) | have hQ4:=True.intro
     repeat' (first
      | (replace hQ4:=hQ4;simp [nil3,hix,hrd,hxb,hH,hil,hw])
      | (refine hQ4 _ _ _ ?_;clear hQ4 Q4;first | simp only [] | skip)
      | (refine hadQ (by assumption) ?_;(try clear hQ4);first | simp only [] | skip)
      | ((fail_if_success replace hQ4:=hQ4);(first | refine hide ?_ | refine hideS ?_ | refine hideB ?_);intro Q4 hQ4))
     exact ⟨trivial,some x,ho,ex_get' (by simp [ptrO])⟩
    | some y =>
     simp only [Option.isNone_some,Bool.false_or] at ho
     simp only [ptrO]
     cases F with
     | true =>
      simp only [Bool.not_true,oqF,if_false] at ho
      first | (refine hide ?_;intro Q5 hQ5) | have hQ5:=True.intro
      repeat' (first
       | (replace hQ5:=hQ5;simp [nil1,hix,hrd,hxb,hH,hil,hw])
       | (refine hQ5 _ _ _ ?_;clear hQ5 Q5;first | simp only [] | skip)
       | (refine hadQ (by assumption) ?_;(try clear hQ5);first | simp only [] | skip)
       | ((fail_if_success replace hQ5:=hQ5);(first | refine hide ?_ | refine hideS ?_ | refine hideB ?_);intro Q5 hQ5))
      exact ⟨trivial,some y,ho,ex_get' (by simp [ptrO])⟩
     | false =>
      simp only [Bool.not_false,if_true] at ho
      first | (refine hide ?_;intro Q6 hQ6) | have hQ6:=True.intro
      repeat' (first
       | (replace hQ6:=hQ6;simp [nil1,hix,hrd,hxb,hH,hil,hw])
       | (refine hQ6 _ _ _ ?_;clear hQ6 Q6;first | simp only [] | skip)
       | (refine hadQ (by assumption) ?_;(try clear hQ6);first | simp only [] | skip)
       | ((fail_if_success replace hQ6:=hQ6);(first | refine hide ?_ | refine hideS ?_ | refine hideB ?_);intro Q6 hQ6))
      exact ⟨trivial,some x,ho,ex_get' (by simp [ptrO])⟩
  ·rintro fr hh ⟨rfl,o,ho,j,rfl⟩
   simp only [findP] at ho
   subst ho
   first | (refine hide ?_;intro Q7 hQ7) | have hQ7:=True.intro
   repeat' (first
    | (replace hQ7:=hQ7;simp)
    | (refine hQ7 _ _ _ ?_;clear hQ7 Q7;first | simp only [] | simp | skip)
    | (refine hadQ (by assumption) ?_;(try clear hQ7);first | simp only [] | simp | skip)
    | ((fail_if_success replace hQ7:=hQ7);(first | refine hide ?_ | refine hideS ?_ | refine hideB ?_);intro Q7 hQ7))
 obtain ⟨r,e,rfl⟩:=key
 rw [hR]
 exact e
def tabOf (t:TabD):Tablet:=⟨t.span,0,t.gen⟩
def someS (b:Bool) (ts:List TabD):List Tablet:=(ts.filter fun t=>t.fr == b).map tabOf
theorem some_c {h:H} {s:Nat} {sp:AS} {ps:List Pt} {last code:Int} (w:StAt h s sp ps last code) (hn:ps.length < 1000) (b:Bool):W K 44 [.one (.ptr s 0 0),.one (.bool b)] h = some (.ret (.one (sl 4 encTablet (nz (someS b (ps.map (·.t)))))) h):=by
 have h2:=w.blk
 obtain ⟨hla,hget⟩:=pt_get w.spine
 have key:∃ r,W K 44 [.one (.ptr s 0 0),.one (.bool b)] h = some r∧r = .ret (.one (sl 4 encTablet (nz (someS b (ps.map (·.t)))))) h:=by
  refine W_iceQ hp rfl rfl rfl rfl Tryz.func44 rfl (by simp [Tryz.f44]) ?_
  simp only [Tryz.f44]
  refine hide ?_;intro Q1 hQ1
  repeat' (first
   | (replace hQ1:=hQ1;simp [h2,hla])
   | refine hQ1 _ _ _ ?_
   | refine dF (id:=6) [0,1,2,3,4,5,6,7,8,9,10,11,12] [] ?_)
  refine does_each hp ps (fun a r fr hh=>Kept h hh∧∃ s1,Sl hh 4 encTablet s1 (someS b (a.map (·.t)))∧(s1 = .nilslc ∨ someS b (a.map (·.t)) ≠ [])∧(∀ b,ownB s1 = some b→h.next ≤ b)∧∃ j:Nat→AV,fr = (j 0::(.one (.bool b))::j 2::j 3::j 4::(.one s1)::j 6::j 7::j 8::j 9::j 10::(.one sp)::(.one (ii ps.length))::(.one (ii a.length))::j 14::j 15::j 16::j 17::j 18::j 19::j 20::j 21::j 22::j 23::j 24::j 25::j 26::j 27::j 28::j 29::j 30::j 31::j 32::j 33::j 34::j 35::j 36::[])) ?_ ?_ _ _ ⟨kept_refl h,.nilslc,.inl ⟨rfl,rfl⟩,.inl rfl,by simp [ownB],ex_get' (by simp)⟩
  ·rintro a x r fr hh hll ⟨kk,s1,i1,i2,i3,j,rfl⟩
   have hil:a.length < ps.length:=by rw [hll];simp
   have hxe:ps[a.length] = x:=by simp only [hll];simp
   obtain ⟨hla',hget'⟩:=pt_get (w.kept kk).spine
   obtain ⟨hix,hrd⟩:=hget' a.length hil
   rw [hxe] at hrd
   obtain ⟨pr,pc,hxb,hxl⟩:=tab_get ((w.kept kk).tabs x (by rw [hll];simp))
   have hw:IntKind.i64.wrap ((a.length:Int) + 1) = ((a++[x]).length:Int):=by rw [step_len];exact step_wrap (by omega)
   have hsm:someS b ((a++[x]).map (·.t)) = someS b (a.map (·.t))++(if x.t.fr == b then [tabOf x.t] else []):=by
    simp only [someS,List.map_append,List.filter_append,List.map_cons,List.map_nil,List.filter_cons,List.filter_nil]
    split <;> simp
   have hsl:(someS b (a.map (·.t))).length ≤ a.length:=by
    simp only [someS,List.length_map]
    exact Nat.le_trans (List.length_filter_le _ _) (by simp)
   rw [hsm]
   obtain ⟨F,hF⟩:∃ F,x.t.fr = F:=⟨_,rfl⟩
   rw [hF] at hxb
   rw [hF]
   generalize someS b (a.map (·.t)) = L at *
   generalize hA2:a++[x] = A2 at *
   have hxn:¬ x.d = hh.next:=by omega
   cases hFb:(F == b) with
   | false =>
    simp only [oqF,if_false,List.append_nil]
    first | (refine hide ?_;intro Q2 hQ2) | have hQ2:=True.intro
    repeat' (first
     | (replace hQ2:=hQ2;simp [hix,hrd,hxb,hil,hw,hFb])
     | (refine hQ2 _ _ _ ?_;clear hQ2 Q2;first | simp only [] | skip)
     | (refine hadQ (by assumption) ?_;(try clear hQ2);first | simp only [] | skip)
     | ((fail_if_success replace hQ2:=hQ2);(first | refine hide ?_ | refine hideS ?_ | refine hideB ?_);intro Q2 hQ2)
     | refine dF (id:=6) [0,1,2,3,4,5,6,7,8,9,10,11,12] [] ?_)
    exact ⟨kk,s1,i1,i2,i3,ex_get' (by simp)⟩
   | true =>
    have i1':Sl (hh.new ⟨0,[4],true,encTablet (tabOf x.t)⟩) 4 encTablet s1 L:=i1.keep (by simp) fun c hc=>new_f (by have:=i1.lt hc;omega)
    obtain ⟨s3,h3,e3,⟨b3,v3,z3,hs3,ar3⟩,k1,k2,k3⟩:=arr_append (P:=Tryz.prog) (t:=25) Tryz.underlying25 (by simp) (by simp) Tryz.bytes61 (by omega) len_tablet (a:=.slc hh.next 0 0 1 4 none) (m:=[tabOf x.t]) i1' rfl (by simp [elemsOf,cat,sub,encTablet]) (by simp) (by simp only [List.length_cons,List.length_nil,Nat.zero_add,limit];omega)
    simp only [new_next] at k1 k2 k3
    simp only [encTablet,tabOf] at e3 k2
    simp only [if_true]
    first | (refine hide ?_;intro Q3 hQ3) | have hQ3:=True.intro
    repeat' (first
     | (replace hQ3:=hQ3;simp [hix,hrd,hxb,hil,hw,hFb,e3])
     | (refine hQ3 _ _ _ ?_;clear hQ3 Q3;first | simp only [] | skip)
     | (refine hadQ (by assumption) ?_;(try clear hQ3);first | simp only [] | skip)
     | ((fail_if_success replace hQ3:=hQ3);(first | refine hide ?_ | refine hideS ?_ | refine hideB ?_);intro Q3 hQ3)
     | refine dF (id:=6) [0,1,2,3,4,5,6,7,8,9,10,11,12] [] ?_)
    refine ⟨⟨by have:=kk.1;omega,fun c hc=>?_⟩,s3,.inr ⟨b3,v3,z3,hs3,ar3⟩,.inr (by simp),fun c hc=>?_,ex_get' (by simp)⟩
    ·have:=kk.1
     rw [k2 c (by omega) (fun e=>by have:=i3 c e;omega),new_f (by omega)];exact kk.2 c hc
    ·have:=kk.1
     rcases k3 c hc with e | e
     ·exact i3 c e
     ·omega
  ·rintro fr hh ⟨kk,s1,i1,i2,i3,j,rfl⟩
   first | (refine hide ?_;intro Q4 hQ4) | have hQ4:=True.intro
   repeat' (first
    | (replace hQ4:=hQ4;simp)
    | (refine hQ4 _ _ _ ?_;clear hQ4 Q4;first | simp only [] | simp | skip)
    | (refine hadQ (by assumption) ?_;(try clear hQ4);first | simp only [] | simp | skip)
    | ((fail_if_success replace hQ4:=hQ4);(first | refine hide ?_ | refine hideS ?_ | refine hideB ?_);intro Q4 hQ4)
    | refine dF (id:=6) [0,1,2,3,4,5,6,7,8,9,10,11,12] [] ?_)
   exact ice_sl len_tablet pure_tablet i1 i3 i2 kk rfl
 obtain ⟨r,e,rfl⟩:=key
 exact e
theorem live_c {h:H} {s:Nat} {sp:AS} {ps:List Pt} {last code:Int} (w:StAt h s sp ps last code) (hn:ps.length < 1000):W K 16 [.one (.ptr s 0 0)] h = some (.ret (.one (sl 4 encTablet (nz (someS false (ps.map (·.t)))))) h):=by
 have hs:=some_c w hn false
 refine W_does hp rfl rfl rfl Tryz.func16 rfl (by simp [Tryz.f16]) ?_
 simp only [Tryz.f16]
 refine hide ?_;intro Q5 hQ5
 repeat' (first
  | (replace hQ5:=hQ5;simp [hs])
  | refine hQ5 _ _ _ ?_)
def rowsS (ts:List TabD):List Named:=(ts.filter fun t=>!t.fr).flatMap (·.rows)
theorem rows_c {h:H} {s:Nat} {sp:AS} {ps:List Pt} {last code:Int} (w:StAt h s sp ps last code) (hn:ps.length < 1000) (ok:∀ p ∈ ps,TblOk p.t.rows):W K 14 [.one (.ptr s 0 0)] h = some (.ret (.one (sl 2 encNamed (nz (rowsS (ps.map (·.t)))))) h):=by
 have h2:=w.blk
 obtain ⟨hla,hget⟩:=pt_get w.spine
 have key:∃ r,W K 14 [.one (.ptr s 0 0)] h = some r∧r = .ret (.one (sl 2 encNamed (nz (rowsS (ps.map (·.t)))))) h:=by
  refine W_iceQ hp rfl rfl rfl rfl Tryz.func14 rfl (by simp [Tryz.f14]) ?_
  simp only [Tryz.f14]
  refine hide ?_;intro Q7 hQ7
  repeat' (first
   | (replace hQ7:=hQ7;simp [h2,hla])
   | refine hQ7 _ _ _ ?_)
  refine does_each hp ps (fun a r fr hh=>Kept h hh∧∃ s1,Sl hh 2 encNamed s1 (rowsS (a.map (·.t)))∧(s1 = .nilslc ∨ rowsS (a.map (·.t)) ≠ [])∧(∀ b,ownB s1 = some b→h.next ≤ b)∧(rowsS (a.map (·.t))).length ≤ a.length * 32∧∃ j:Nat→AV,fr = (j 0::j 1::j 2::(.one s1)::j 4::j 5::j 6::j 7::j 8::(.one sp)::(.one (ii ps.length))::(.one (ii a.length))::j 12::j 13::j 14::j 15::j 16::j 17::j 18::j 19::j 20::j 21::j 22::j 23::j 24::j 25::j 26::j 27::j 28::[])) ?_ ?_ _ _ ⟨kept_refl h,.nilslc,.inl ⟨rfl,rfl⟩,.inl rfl,by simp [ownB],by simp [rowsS],ex_get' (by simp)⟩
  ·rintro a x r fr hh hll ⟨kk,s1,i1,i2,i3,i4,j,rfl⟩
   have hil:a.length < ps.length:=by rw [hll];simp
   have hxe:ps[a.length] = x:=by simp only [hll];simp
   have hxm:x ∈ ps:=by rw [hll];simp
   obtain ⟨hla',hget'⟩:=pt_get (w.kept kk).spine
   obtain ⟨hix,hrd⟩:=hget' a.length hil
   rw [hxe] at hrd
   obtain ⟨pr,pc,qr,qc,hxl,hxb,br,bc,_⟩:=(w.kept kk).tabs x hxm
   simp only [tabB] at hxb
   have hall:=all_c br (ok x hxm)
   have hx32:=(ok x hxm).len
   have hw:IntKind.i64.wrap ((a.length:Int) + 1) = ((a++[x]).length:Int):=by rw [step_len];exact step_wrap (by omega)
   have hsm:rowsS ((a++[x]).map (·.t)) = rowsS (a.map (·.t))++(if x.t.fr = true then [] else x.t.rows):=by
    simp only [rowsS,List.map_append,List.filter_append,List.map_cons,List.map_nil,List.filter_cons,List.filter_nil]
    cases x.t.fr <;> simp
   rw [hsm]
   have hA3:(a++[x]).length = a.length + 1:=by simp
   obtain ⟨F,hF⟩:∃ F,x.t.fr = F:=⟨_,rfl⟩
   rw [hF] at hxb
   rw [hF]
   generalize rowsS (a.map (·.t)) = L at *
   generalize hA2:a++[x] = A2 at *
   generalize x.t.rows = X at *
   cases F with
   | true =>
    simp only [if_true,List.append_nil]
    first | (refine hide ?_;intro Q8 hQ8) | have hQ8:=True.intro
    repeat' (first
     | (replace hQ8:=hQ8;simp [hix,hrd,hxb,hil,hw])
     | (refine hQ8 _ _ _ ?_;clear hQ8 Q8;first | simp only [] | skip)
     | (refine hadQ (by assumption) ?_;(try clear hQ8);first | simp only [] | skip)
     | ((fail_if_success replace hQ8:=hQ8);(first | refine hide ?_ | refine hideS ?_ | refine hideB ?_);intro Q8 hQ8))
    exact ⟨kk,s1,i1,i2,i3,by omega,ex_get' (by simp)⟩
   | false =>
    simp only [oqF,if_false]
    by_cases hX:X = []
    ·subst hX
     have hap:appendA Tryz.prog 48 48 hh s1 .nilslc = some (s1,hh):=by
      rw [append_slice (size:=2) (el:=83) (x:=.nilslc) (m:=0) (new:=[]) (u:=48) (by simp) (by simp) Tryz.bytes83 Tryz.underlying48 rfl rfl]
      rcases i1 with ⟨rfl,_⟩ | ⟨bb,vv,zz,rfl,_⟩ <;> simp [appendL]
     simp only [nz_nil] at hall
     simp only [List.append_nil]
     first | (refine hide ?_;intro Q9 hQ9) | have hQ9:=True.intro
     repeat' (first
      | (replace hQ9:=hQ9;simp [hix,hrd,hxb,hil,hw,hall,hap])
      | (refine hQ9 _ _ _ ?_;clear hQ9 Q9;first | simp only [] | skip)
      | (refine hadQ (by assumption) ?_;(try clear hQ9);first | simp only [] | skip)
      | ((fail_if_success replace hQ9:=hQ9);(first | refine hide ?_ | refine hideS ?_ | refine hideB ?_);intro Q9 hQ9))
     exact ⟨kk,s1,i1,i2,i3,by omega,ex_get' (by simp)⟩
    ·rw [nz_ne hX] at hall
     obtain ⟨s3,h3,e3,⟨b3,v3,z3,hs3,ar3⟩,k1,k2,k3⟩:=arr_append (P:=Tryz.prog) (t:=48) Tryz.underlying48 (by simp) (by simp) Tryz.bytes83 (by omega) len_named (a:=sl 2 encNamed (some X)) (m:=X) i1 (by simp [sl,lenS]) (elems_sl len_named (by omega) hh (some X)) hX (by simp only [limit];omega)
     generalize sl 2 encNamed (some X) = Z at *
     first | (refine hide ?_;intro Q10 hQ10) | have hQ10:=True.intro
     repeat' (first
      | (replace hQ10:=hQ10;simp [hix,hrd,hxb,hil,hw,hall,e3])
      | (refine hQ10 _ _ _ ?_;clear hQ10 Q10;first | simp only [] | skip)
      | (refine hadQ (by assumption) ?_;(try clear hQ10);first | simp only [] | skip)
      | ((fail_if_success replace hQ10:=hQ10);(first | refine hide ?_ | refine hideS ?_ | refine hideB ?_);intro Q10 hQ10))
     refine ⟨⟨by have:=kk.1;omega,fun c hc=>?_⟩,s3,.inr ⟨b3,v3,z3,hs3,ar3⟩,.inr (by simp [hX]),fun c hc=>?_,by simp only [List.length_append];omega,ex_get' (by simp)⟩
     ·have:=kk.1
      rw [k2 c (by omega) (fun e=>by have:=i3 c e;omega)];exact kk.2 c hc
     ·have:=kk.1
      rcases k3 c hc with e | e
      ·exact i3 c e
      ·omega
  ·rintro fr hh ⟨kk,s1,i1,i2,i3,i4,j,rfl⟩
   first | (refine hide ?_;intro Q11 hQ11) | have hQ11:=True.intro
   repeat' (first
    | (replace hQ11:=hQ11;simp)
    | (refine hQ11 _ _ _ ?_;clear hQ11 Q11;first | simp only [] | simp | skip)
    | (refine hadQ (by assumption) ?_;(try clear hQ11);first | simp only [] | simp | skip)
    | ((fail_if_success replace hQ11:=hQ11);(first | refine hide ?_ | refine hideS ?_ | refine hideB ?_);intro Q11 hQ11))
   exact ice_sl len_named pure_named i1 i3 i2 kk rfl
 obtain ⟨r,e,rfl⟩:=key
 exact e
theorem newest_len (r:Row) (c:BL):(newest r c).1.kind = 1→(ls (newest r c).1.b).length ≤ 1099511627776:=by
 unfold newest valAt
 intro h1
 dsimp only at h1 ⊢
 split at h1
 ·simp [zV] at h1
 rename_i hc
 rw [if_neg hc]
 cases hf:(ls ((ls (rowCopy r))[colIx (ls (rowCopy r)) c]?.bind (·.l))).find? (fun x=>decide (x.time ≤ 1099511627776)) with
 | none=>rw [hf] at h1;simp [pickV,zV] at h1
 | some x =>
  rw [hf] at h1
  simp only [pickV] at h1 ⊢
  have hx:=List.mem_of_find?_eq_some hf
  cases hg:(ls (rowCopy r))[colIx (ls (rowCopy r)) c]? with
  | none=>rw [hg] at hx;simp at hx
  | some y =>
   rw [hg] at hx
   simp only [oqS] at hx
   have hy:=List.mem_of_getElem? hg
   have:=(col_lims (rowCopy_ok r)).2 y hy
   have:=this.2.2 x hx h1
   omega
theorem len_tfind {l:List Named} (ok:TblOk l) (n:BL):(ls (tfind l n).1).length < 1000000:=by
 unfold tfind
 split
 ·have:=len_rowB (rowCopy_ok ((l[tix l n]?).bind (·.r)));dsimp only;omega
 ·simp
theorem only_refl (h:H) (p:Nat) (q:Option Nat):Only h h p q q:=⟨Nat.le_refl _,fun _ _ _ _=>rfl,.inl rfl⟩
theorem only_new {h h':H} {p:Nat} {q q':Option Nat} {k:Blk} (o:Only (h.new k) h' p q q'):Only h h' p q q' where
 next:=by have:=o.next;simp at this;omega
 keep b hb h1 h2:=by rw [o.keep b (by simp;omega) h1 h2,new_f (by omega)]
 own:=by
  rcases o.own with e | ⟨x,e,hx⟩
  ·exact .inl e
  ·simp at hx;exact .inr ⟨x,e,by omega⟩
theorem new_set2 (h:H) (a b k k':Blk):(((h.new a).new b).new k).set (h.next + 1 + 1) k' = ((h.new a).new b).new k':=new_set ((h.new a).new b) k k'
theorem mutate_c {h:H} {d pr:Nat} {qr:Option Nat} {l:List Named} {sp:Span} {gen:Int} {fr:Bool} {pc:AS} (o_kind:Int) (o_row:BL) (o_hi:BL) (o_cond_has:Bool) (o_cond_want:Bool) (o_cond_col:BL) (o_cond_v_kind:Int) (o_cond_v_b:Option BL) (o_cond_v_n:Nat) (o_l:Option (List Change)) (o_most:Int) (hd:h.f d = some (tabB sp gen fr (.ptr pr 0 0) pc)) (hdn:d < h.next) (w:Bx h pr 2 encNamed l qr) (ok:TblOk l) (hb:o_cond_v_kind = 1→(ls o_cond_v_b).length ≤ 1099511627776) :
  ∃ h' q',W K 120 [.one (.ptr d 0 0),.agg [ii o_kind,.str o_row,.str o_hi,.bool o_cond_has,.bool o_cond_want,.str o_cond_col,ii o_cond_v_kind,bs o_cond_v_b,.flt o_cond_v_n,sl 6 encChange o_l,ii o_most]] h = some (.ret (.one (ii (mutT l ⟨o_kind,o_row,o_hi,⟨o_cond_has,o_cond_want,o_cond_col,⟨o_cond_v_kind,o_cond_v_b,o_cond_v_n⟩⟩,o_l,o_most⟩).2)) h')∧Bx h' pr 2 encNamed (mutT l ⟨o_kind,o_row,o_hi,⟨o_cond_has,o_cond_want,o_cond_col,⟨o_cond_v_kind,o_cond_v_b,o_cond_v_n⟩⟩,o_l,o_most⟩).1 q'∧Only h h' pr qr q':=by
 obtain ⟨B0,hB0⟩:∃ B:Blk,B = ⟨0,[11],true,[ii o_kind,.str o_row,.str o_hi,.bool o_cond_has,.bool o_cond_want,.str o_cond_col,ii o_cond_v_kind,bs o_cond_v_b,.flt o_cond_v_n,sl 6 encChange o_l,ii o_most]⟩:=⟨_,rfl⟩
 have hf1:=tFind_c (w.new B0) ok o_row
 have hrl:=len_tfind ok o_row
 have hd0:(h.new B0).f d = some (tabB sp gen fr (.ptr pr 0 0) pc):=by rw [new_f (by omega)];exact hd
 have hne:¬ d = h.next:=by omega
 have hne1:¬ d = h.next + 1:=by omega
 have hne2:¬ d = h.next + 1 + 1:=by omega
 obtain ⟨res,hres⟩:∃ res,mutT l ⟨o_kind,o_row,o_hi,⟨o_cond_has,o_cond_want,o_cond_col,⟨o_cond_v_kind,o_cond_v_b,o_cond_v_n⟩⟩,o_l,o_most⟩ = res:=⟨_,rfl⟩
 rw [hres]
 unfold mutT at hres
 simp only at hres
 obtain ⟨R,hR⟩:∃ R,(tfind l o_row).1 = R:=⟨_,rfl⟩
 rw [hR] at hres hf1 hrl
 have hH:=holds_c R hrl o_cond_has o_cond_want o_cond_col o_cond_v_kind o_cond_v_b o_cond_v_n hb (newest_len R _)
 have hA:=apply_c R hrl o_l
 obtain ⟨B1,hB1⟩:∃ B:Blk,B = ⟨0,[1],true,[sl 2 encColumn R]⟩:=⟨_,rfl⟩
 cases hh:holds R ⟨o_cond_has,o_cond_want,o_cond_col,⟨o_cond_v_kind,o_cond_v_b,o_cond_v_n⟩⟩ with
 | false =>
  rw [hh] at hres hH
  simp only [if_true] at hres
  subst hres
  refine ⟨(h.new B0).new B1,qr, ?_,(w.new B0).new B1,only_new (only_new (only_refl _ _ _))⟩
  rw [hB0] at hf1 ⊢
  rw [hB1]
  simp only [tabB] at hd
  simp only [encRow] at hf1 hA
  refine W_does hp rfl rfl rfl Tryz.func120 rfl (by simp [Tryz.f120]) ?_
  simp only [Tryz.f120]
  refine hide ?_;intro Q1 hQ1
  repeat' (first
   | (replace hQ1:=hQ1;simp [hd,hf1,hH,hne,new_set1])
   | refine hQ1 _ _ _ ?_
   | (first | refine dF (id:=1) [0,1,2,3,4,5,6,7,8,9,10,11,12] [] ?_ | refine dF (id:=7) [0,1,2,3,4,5,6,7,8] [] ?_))
 | true =>
  rw [hh] at hres hH
  simp only [Bool.true_eq_false,if_false] at hres
  obtain ⟨A,hAe⟩:∃ A,apply R (ls o_l) = A:=⟨_,rfl⟩
  rw [hAe] at hres hA
  have hAl:(ls A.1).length < 1000000:=by
   rw [← hAe,← apply_ok]
   have:=len_rowB (rowCopy_ok (apply R (ls o_l)).1);omega
  obtain ⟨B2,hB2⟩:∃ B:Blk,B = ⟨0,[1],true,[sl 2 encColumn A.1]⟩:=⟨_,rfl⟩
  by_cases h0:A.2 = 0
  ·rw [if_pos h0] at hres
   obtain ⟨h',q',e,b,o⟩:=tset_c (((w.new B0).new B1).new B2) ok o_row A.1 hAl
   rw [hres] at e b
   refine ⟨h',q', ?_,b,only_new (only_new (only_new o))⟩
   rw [hB0] at hf1 e
   rw [hB1,hB2] at e
   simp only [tabB] at hd
   simp only [encRow] at hf1 hA
   rw [h0] at hA
   refine W_does hp rfl rfl rfl Tryz.func120 rfl (by simp [Tryz.f120]) ?_
   simp only [Tryz.f120]
   refine hide ?_;intro Q2 hQ2
   repeat' (first
    | (replace hQ2:=hQ2;simp [hd,hf1,hH,hne,hne1,hne2,hA,new_set1,new_set2,e])
    | refine hQ2 _ _ _ ?_
    | (first | refine dF (id:=1) [0,1,2,3,4,5,6,7,8,9,10,11,12] [] ?_ | refine dF (id:=7) [0,1,2,3,4,5,6,7,8] [] ?_))
  ·rw [if_neg h0] at hres
   subst hres
   refine ⟨((h.new B0).new B1).new B2,qr, ?_,((w.new B0).new B1).new B2,only_new (only_new (only_new (only_refl _ _ _)))⟩
   rw [hB0] at hf1 ⊢
   rw [hB1,hB2]
   have h0b:(A.2 == 0) = false:=by simp [h0]
   have h0c:(A.2 != 0) = true:=by simp [h0]
   simp only [tabB] at hd
   simp only [encRow] at hf1 hA
   refine W_does hp rfl rfl rfl Tryz.func120 rfl (by simp [Tryz.f120]) ?_
   simp only [Tryz.f120]
   refine hide ?_;intro Q3 hQ3
   repeat' (first
    | (replace hQ3:=hQ3;simp [hd,hf1,hH,hne,hA,new_set1,new_set2,h0c])
    | refine hQ3 _ _ _ ?_
    | (first | refine dF (id:=1) [0,1,2,3,4,5,6,7,8,9,10,11,12] [] ?_ | refine dF (id:=7) [0,1,2,3,4,5,6,7,8] [] ?_))
end Go.Proofs.YtiagcnfmgigllaaGreat
