/- A part of a proof over the abstract machine. No conditions. -/
import Derived.Test.YtiagcnfmgigllaaGreatT24
set_option linter.all false
namespace Go.Proofs.YtiagcnfmgigllaaGreat
open Go Go.Ab Wm NumPlain Go.Proofs.Tryz
set_option maxRecDepth 10000
set_option maxHeartbeats 4000000
theorem q0D (c:Int) (h:H):W K 37 [.one (ii c)] h = some (.ret (.agg (c6 (noA c))) h):=by
 simp only [noA,c6,Wm.sl_none,C9]
 refine zzP func37 rfl ?_
 simp only [f37]
 intro Yb Q1 Y1
 repeat' (first
  | (replace Y1:=Y1;simp [A7,A0,z9,c7,u9,Yb])
  | refine Y1 _ _ _ ?_)
theorem A0n {h h1:H} {b:Nat} {n:BL} {r:Row} (hb:h.next <= b) (hlt:b < h1.next) (hf:h1.f b = some ⟨0,[2],true,[.str n,sl 2 l7 r]⟩) (hn:h.next <= h1.next) (hs:∀ c,c < h.next->h1.f c = h.f c) {Q:CR->Prop}
  (hq:Q (.ret (.agg (c6 ⟨0,some [⟨n,r⟩],⟨[],[]⟩,0,0,0,0,0,[],none⟩)) h)):g0E false h Q (.ret (.agg [ii 0,.slc b 0 0 1 2 none,.str [],.str [],ii 0,ii 0,ii 0,ii 0,ii 0,.str [],.nilslc]) h1):=by
 have a:Sl h1 2 g9 (.slc b 0 0 1 2 none) [⟨n,r⟩]:=.inr ⟨b,0,[],rfl,hlt,true,[],by simp [hf,cat,g9]⟩
 obtain ⟨o,_,h2,_,_,h5⟩:=n0M (h:=h) C4 c0K a (fun c hc=>by cases hc;exact hb) 62
 have ho:=h2 (by simp)
 subst ho
 refine ⟨_,p0P (v':=.agg (c6 ⟨0,some [⟨n,r⟩],⟨[],[]⟩,0,0,0,0,0,[],none⟩)) (by simp [b0u,v9,c7]) ⟨hn,fun c hc=>.inl (hs c hc)⟩ ?_,by rw [g0w hs];exact hq⟩
 simp only [A0,List.mapM_cons,List.mapM_nil,h5,oqE,oqS,oqP,c6,C9]
 simp [z9,c7]
theorem w0C (a:Answer):v9 false (c6 a) = true:=by simp [c6,v9,c7]
theorem H0S {h:H} {d pr:Nat} {qr:Option Nat} {l:List Named} {sp:Span} {gen:Int} {fr:Bool} {pc:AS} (C7:Int) (D5:BL) (L3:BL) (r9:Bool) (l9:Bool) (s8:BL) (c9:Int) (p4:Option BL) (s7:Nat) (o_l:Option (List Change)) (C5:Int) (hd:h.f d = some (Y0 sp gen fr (.ptr pr 0 0) pc)) (hdn:d < h.next) (w:Bx h pr 2 g9 l qr) (ok:TblOk l) (hb:c9 = 1->(ls p4).length <= 1099511627776) :
  ∃ h' q',W K 75 [.one (.ptr d 0 0),.agg [ii C7,.str D5,.str L3,.bool r9,.bool l9,.str s8,ii c9,bs p4,.flt s7,sl 6 l8 o_l,ii C5]] h = some (.ret (.agg (c6 (opT sp l ⟨C7,D5,L3,⟨r9,l9,s8,⟨c9,p4,s7⟩⟩,o_l,C5⟩).1)) h')/\Bx h' pr 2 g9 (opT sp l ⟨C7,D5,L3,⟨r9,l9,s8,⟨c9,p4,s7⟩⟩,o_l,C5⟩).2 q'/\Only h h' pr qr q':=by
 obtain ⟨B0,hB0⟩:∃ B:Blk,B = ⟨0,[11],true,[ii C7,.str D5,.str L3,.bool r9,.bool l9,.str s8,ii c9,bs p4,.flt s7,sl 6 l8 o_l,ii C5]⟩:=⟨_,rfl⟩
 obtain ⟨B1,hB1⟩:∃ B:Blk,B = ⟨0,[11],true,[ii 0,.nilslc,.str [],.str [],ii 0,ii 0,ii 0,ii 0,ii 0,.str [],.nilslc]⟩:=⟨_,rfl⟩
 have hne:¬ d = h.next:=by omega
 have hne1:¬ d = h.next + 1:=by omega
 have hne2:¬ d = h.next + 1 + 1:=by omega
 obtain ⟨slo,shi⟩:=sp
 simp only [Y0] at hd
 obtain ⟨res,hres⟩:∃ res,opT ⟨slo,shi⟩ l ⟨C7,D5,L3,⟨r9,l9,s8,⟨c9,p4,s7⟩⟩,o_l,C5⟩ = res:=⟨_,rfl⟩
 rw [hres]
 unfold opT at hres
 simp only at hres
 suffices key:∃ r,W K 75 [.one (.ptr d 0 0),.agg [ii C7,.str D5,.str L3,.bool r9,.bool l9,.str s8,ii c9,bs p4,.flt s7,sl 6 l8 o_l,ii C5]] h = some r/\∃ h' q',r = .ret (.agg (c6 res.1)) h'/\Bx h' pr 2 g9 res.2 q'/\Only h h' pr qr q' by
  obtain ⟨r,e,h',q',rfl,k⟩:=key
  exact ⟨h',q',e,k⟩
 obtain ⟨P,hP⟩:∃ P:CR->Prop,P = fun r=>∃ h' q',r = .ret (.agg (c6 res.1)) h'/\Bx h' pr 2 g9 res.2 q'/\Only h h' pr qr q':=⟨_,rfl⟩
 suffices hh:∃ r,W K 75 [.one (.ptr d 0 0),.agg [ii C7,.str D5,.str L3,.bool r9,.bool l9,.str s8,ii c9,bs p4,.flt s7,sl 6 l8 o_l,ii C5]] h = some r/\P r by rw [hP] at hh;exact hh
 have fin:∀ (a:Answer) (h1:H) (q':Option Nat),a = res.1->Bx h1 pr 2 g9 res.2 q'->Only h h1 pr qr q'->g0E false h P (.ret (.agg (c6 a)) h1):=fun a h1 q' ha hbx ho=>by
  refine p0a (by simp [b0u,w0C]) ?_
  rw [hP];exact ⟨h1,q',by rw [ha],hbx,ho⟩
 by_cases k1:C7 = 1
 ·rw [if_pos k1] at hres
  subst k1
  have hf1:=s0K ((w.new B0).new B1) ok D5
  cases ht:(b0g l D5).2 with
  | false =>
   rw [ht] at hres hf1
   simp only [oqF,if_false] at hres
   have hno:=q0D 0
   have fr2:∀ (K1 K2 K3:Blk) (c:Nat),c < h.next->(((((h.new B0).new B1).new K1).set (h.next + 1 + 1) K2).set (h.next + 1) K3).f c = h.f c:=fun K1 K2 K3 c hc=>by
    rw [l0,if_neg (by omega),l0,if_neg (by omega),p0 (by simp;omega),p0 (by simp;omega),p0 (by omega)]
   have f2:=fun K1 K2 K3:Blk=>fin (noA 0) (((((h.new B0).new B1).new K1).set (h.next + 1 + 1) K2).set (h.next + 1) K3) qr (by rw [<- hres]) (by rw [<- hres];exact w.keep (by simp;omega) (fr2 K1 K2 K3 pr w.1) fun c hc=>fr2 K1 K2 K3 c (w.lt hc)) ⟨by simp;omega,fun c hc _ _=>fr2 K1 K2 K3 c hc,.inl rfl⟩
   rw [hB0,hB1] at hf1 f2
   simp only [c6,noA,Wm.sl_none,C9] at hno f2
   simp only [J8] at hf1
   refine zzI func75 rfl ?_
   simp only [f75]
   intro Q2 Y2
   repeat' (first
    | (replace Y2:=Y2;simp [hd,hne,hne1,hf1,hno])
    | refine Y2 _ _ _ ?_
    | (first | refine dF (id:=3) b0H [] ?_ | refine dF (id:=12) c0P [] ?_))
   all_goals exact f2 _ _ _
  | true =>
   rw [ht] at hres hf1
   simp only [if_true] at hres
   simp only [J8] at hf1
   rw [hB0,hB1] at hf1
   refine zzI func75 rfl ?_
   simp only [f75]
   intro Q3 Y3
   repeat' (first
    | (replace Y3:=Y3;simp [hd,hne,hne1,hf1,i0o])
    | refine Y3 _ _ _ ?_
    | (first | refine dF (id:=3) b0H [] ?_ | refine dF (id:=12) c0P [] ?_))
   refine A0n (n:=D5) (r:=(b0g l D5).1) (by first | omega | (simp;done) | (simp;omega)) (by first | omega | (simp;done) | (simp;omega)) (by simp) (by first | omega | (simp;done) | (simp;omega)) (fun c hc=>?_) ?_
   ·have g1:¬ c = h.next:=by omega
    have g2:¬ c = h.next + 1:=by omega
    have g3:¬ c = h.next + 1 + 1:=by omega
    have g4:¬ c = h.next + 1 + 1 + 1:=by omega
    simp [L8,l0,g1,g2,g3,g4]
   rw [hP,<- hres]
   exact ⟨h,qr,rfl,w,g0j _ _ _⟩
 ·rw [if_neg k1] at hres
  have k1b:(C7 == 1) = false:=by simp [k1]
  by_cases k2:C7 = 2
  ·rw [if_pos k2] at hres
   subst k2
   have hd':((h.new B0).new B1).f d = some (Y0 ⟨slo,shi⟩ gen fr (.ptr pr 0 0) pc):=by rw [p0 (by simp;omega),p0 (by omega)];exact hd
   obtain ⟨h',q',e,b,o⟩:=x0S 2 D5 L3 r9 l9 s8 c9 p4 s7 o_l C5 hd' (by simp;omega) ((w.new B0).new B1) ok hb
   have hm1:(f0v l ⟨2,D5,L3,⟨r9,l9,s8,⟨c9,p4,s7⟩⟩,o_l,C5⟩) = (f0v l ⟨2,D5,L3,⟨r9,l9,s8,⟨c9,p4,s7⟩⟩,o_l,C5⟩):=rfl
   generalize f0v l ⟨2,D5,L3,⟨r9,l9,s8,⟨c9,p4,s7⟩⟩,o_l,C5⟩ = M at *
   have on:=o.next
   simp only [A6] at on
   have hno:=q0D M.2
   have wp:pr ≠ h.next + 1:=by have:=w.1;omega
   have hf1:h'.f (h.next + 1) = some B1:=by rw [o.keep (h.next + 1) (by simp) (Ne.symm wp) (fun e=>by have:=w.lt e;omega)];simp
   have own':q' = qr \/ ∃ x,q' = some x/\h.next + 1 + 1 <= x:=by
    rcases o.own with e | ⟨x,e,hx⟩
    ·exact .inl e
    ·simp at hx;exact .inr ⟨x,e,hx⟩
   have hq1:q' ≠ some (h.next + 1):=fun hc=>by
    rcases own' with e | ⟨x,e,hx⟩
    ·rw [hc] at e;have:=w.lt e.symm;omega
    ·rw [hc] at e;cases e;omega
   have hbx:∀ k:Blk,Bx (h'.set (h.next + 1) k) pr 2 g9 M.1 q':=fun k=>b.keep (by simp) (by rw [l0,if_neg wp]) fun c hc=>by rw [l0,if_neg (fun hcc=>hq1 (by rw [hc,hcc]))]
   have hon:∀ k:Blk,Only h (h'.set (h.next + 1) k) pr qr q':=fun k=>⟨by simp;omega,fun c hc h1 h2=>by rw [l0,if_neg (by omega),o.keep c (by simp;omega) h1 h2,p0 (by simp;omega),p0 (by omega)],by
    rcases own' with e | ⟨x,e,hx⟩
    ·exact .inl e
    ·exact .inr ⟨x,e,by omega⟩⟩
   have f2:=fun (k:Blk)=>fin (noA M.2) (h'.set (h.next + 1) k) q' (by rw [<- hres]) (by rw [<- hres];exact hbx k) (hon k)
   rw [hB0,hB1] at e
   rw [hB1] at hf1
   simp only [c6,noA,Wm.sl_none,C9] at hno f2
   refine zzI func75 rfl ?_
   simp only [f75]
   intro Q4 Y4
   repeat' (first
    | (replace Y4:=Y4;simp [e,hno,hf1])
    | refine Y4 _ _ _ ?_
    | (first | refine dF (id:=3) b0H [] ?_ | refine dF (id:=12) c0P [] ?_))
   all_goals exact f2 _
  ·rw [if_neg k2] at hres
   have k2b:(C7 == 2) = false:=by simp [k2]
   have hr:=p0j ((w.new B0).new B1) ok D5 (hiT ⟨slo,shi⟩ L3) C5
   obtain ⟨rg,hrg⟩:∃ rg,a0l l D5 (hiT ⟨slo,shi⟩ L3) C5 = rg:=⟨_,rfl⟩
   rw [hrg] at hr hres
   have f2:=fin res.1 ((h.new B0).new (⟨0,[11],true,c6 res.1⟩:Blk)) qr rfl (by rw [<- hres];exact (w.new _).new _) (b0d (b0d (g0j _ _ _)))
   rw [hB0] at f2 hr
   rw [hB1] at hr
   clear fin
   by_cases n0:rg.2 = []
   ·rw [if_pos n0] at hres
    rw [n0] at hr
    by_cases h0:L3 = []
    ·have hh:hiT ⟨slo,shi⟩ L3 = shi:=by simp [hiT,h0]
     rw [hh] at hr hres
     subst h0
     rw [<- hres] at f2
     simp only [c6,C9] at f2
     refine zzI func75 rfl ?_
     simp only [f75]
     intro Q5 Y5
     repeat' (first
      | (replace Y5:=Y5;simp [O7,hd,hne,hne1,k1b,k2b,hr,T8])
      | refine Y5 _ _ _ ?_
      | (first | refine dF (id:=3) b0H [] ?_ | refine dF (id:=12) c0P [] ?_))
     all_goals exact f2
    ·have h0b:(L3 == []) = false:=by simp [h0]
     have h0c:(L3 != []) = true:=by simp [h0]
     by_cases s0:shi = []
     ·have hh:hiT ⟨slo,shi⟩ L3 = L3:=by simp [hiT,h0,s0]
      rw [hh] at hr hres
      subst s0
      rw [<- hres] at f2
      simp only [c6,C9] at f2
      refine zzI func75 rfl ?_
      simp only [f75]
      intro Q6 Y6
      repeat' (first
       | (replace Y6:=Y6;simp [O7,hd,hne,hne1,k1b,k2b,h0b,hr,T8])
       | refine Y6 _ _ _ ?_
       | (first | refine dF (id:=3) b0H [] ?_ | refine dF (id:=12) c0P [] ?_))
      all_goals exact f2
     ·have s0b:(shi == []) = false:=by simp [s0]
      cases bl:Op.bytesLess L3 shi with
      | true =>
       have hh:hiT ⟨slo,shi⟩ L3 = L3:=by simp [hiT,h0,blt,bl]
       rw [hh] at hr hres
       rw [<- hres] at f2
       simp only [c6,C9] at f2
       refine zzI func75 rfl ?_
       simp only [f75]
       intro Q7 Y7
       repeat' (first
        | (replace Y7:=Y7;simp [O7,hd,hne,hne1,k1b,k2b,h0b,s0b,bl,hr,T8])
        | refine Y7 _ _ _ ?_
        | (first | refine dF (id:=3) b0H [] ?_ | refine dF (id:=12) c0P [] ?_))
       all_goals exact f2
      | false =>
       have hh:hiT ⟨slo,shi⟩ L3 = shi:=by simp [hiT,s0,blt,bl]
       rw [hh] at hr hres
       rw [<- hres] at f2
       simp only [c6,C9] at f2
       refine zzI func75 rfl ?_
       simp only [f75]
       intro Q8 Y8
       repeat' (first
        | (replace Y8:=Y8;simp [O7,hd,hne,hne1,k1b,k2b,h0b,s0b,bl,hr,T8])
        | refine Y8 _ _ _ ?_
        | (first | refine dF (id:=3) b0H [] ?_ | refine dF (id:=12) c0P [] ?_))
       all_goals exact f2
   ·rw [if_neg n0] at hres
    have n0b:(rg.2 == []) = false:=by simp [n0]
    have n0c:(rg.2 != []) = true:=by simp [n0]
    rw [<- hres] at f2
    simp only [c6,C9] at f2
    by_cases h0:L3 = []
    ·have hh:hiT ⟨slo,shi⟩ L3 = shi:=by simp [hiT,h0]
     rw [hh] at hr
     subst h0
     refine zzI func75 rfl ?_
     simp only [f75]
     intro Q9 Y9
     repeat' (first
      | (replace Y9:=Y9;simp [O7,hd,hne,hne1,k1b,k2b,n0b,hr,T8])
      | refine Y9 _ _ _ ?_
      | (first | refine dF (id:=3) b0H [] ?_ | refine dF (id:=12) c0P [] ?_))
     all_goals exact f2
    ·have h0b:(L3 == []) = false:=by simp [h0]
     have h0c:(L3 != []) = true:=by simp [h0]
     by_cases s0:shi = []
     ·have hh:hiT ⟨slo,shi⟩ L3 = L3:=by simp [hiT,h0,s0]
      rw [hh] at hr
      subst s0
      refine zzI func75 rfl ?_
      simp only [f75]
      intro Q10 Y10
      repeat' (first
       | (replace Y10:=Y10;simp [O7,hd,hne,hne1,k1b,k2b,h0b,n0b,hr,T8])
       | refine Y10 _ _ _ ?_
       | (first | refine dF (id:=3) b0H [] ?_ | refine dF (id:=12) c0P [] ?_))
      all_goals exact f2
     ·have s0b:(shi == []) = false:=by simp [s0]
      cases bl:Op.bytesLess L3 shi with
      | true =>
       have hh:hiT ⟨slo,shi⟩ L3 = L3:=by simp [hiT,h0,blt,bl]
       rw [hh] at hr
       refine zzI func75 rfl ?_
       simp only [f75]
       intro Q11 Y11
       repeat' (first
        | (replace Y11:=Y11;simp [O7,hd,hne,hne1,k1b,k2b,h0b,s0b,bl,n0b,hr,T8])
        | refine Y11 _ _ _ ?_
        | (first | refine dF (id:=3) b0H [] ?_ | refine dF (id:=12) c0P [] ?_))
       all_goals exact f2
      | false =>
       have hh:hiT ⟨slo,shi⟩ L3 = shi:=by simp [hiT,s0,blt,bl]
       rw [hh] at hr
       refine zzI func75 rfl ?_
       simp only [f75]
       intro Q12 Y12
       repeat' (first
        | (replace Y12:=Y12;simp [O7,hd,hne,hne1,k1b,k2b,h0b,s0b,bl,n0b,hr,T8])
        | refine Y12 _ _ _ ?_
        | (first | refine dF (id:=3) b0H [] ?_ | refine dF (id:=12) c0P [] ?_))
       all_goals exact f2
def l0L (x:Named):Bool:=J9 x.name && V5 x.r
theorem p0H (x:Named) (hx:(ls x.r).length < 1000000) (h:H):W K 171 (.agg (g9 x)::([]:List AS).map AV.one) h = some (.ret (.one (.bool (!l0L x))) h):=by
 obtain ⟨xn,xr⟩:=x
 have hn:=d0A xn
 have hr:=p0K xr hx
 simp only [g9,List.map_nil]
 have e:l0L ⟨xn,xr⟩ = (J9 xn && V5 xr):=rfl
 rw [e]
 cases h1:J9 xn with
 | false =>
  rw [h1] at hn
  simp only [Bool.false_and,Bool.not_false]
  refine zzP func171 rfl ?_
  simp only [f171]
  intro Yb Q1 Y1
  repeat' (first
   | (replace Y1:=Y1;simp [hn,A7,A0,z9,c7,u9,Yb])
   | refine Y1 _ _ _ ?_)
 | true =>
  rw [h1] at hn
  simp only [Bool.true_and]
  refine zzP func171 rfl ?_
  simp only [f171]
  intro Yb Q2 Y2
  repeat' (first
   | (replace Y2:=Y2;simp [hn,hr,A7,A0,z9,c7,u9,Yb])
   | refine Y2 _ _ _ ?_)
theorem y0z (l:List Named) (hx:∀ x ∈ l,(ls x.r).length < 1000000) (hok:∀ x ∈ l,l0L x = true) (ho:l.length < 1000000) (h:H) :
  W K 212 [.one (sl 2 g9 (some l)),.one (.fn 171 [] [])] h = some (.ret (.one (ii (-1))) h):=by
 have hla:∀ (u:TypeId) (h':H),V9 (sl 2 g9 (some l)) (some (.slice u)) h' = some (one (ii l.length) h'):=fun u h'=>a0C ..
 refine zzP func212 rfl ?_
 simp only [f212]
 intro Yb Q3 Y3
 repeat' (first
  | (replace Y3:=Y3;simp [hla])
  | refine Y3 _ _ _ ?_)
 refine I8 hp l (fun a r fr hh=>∃ j,fr = ((.one (sl 2 g9 (some l)))::(.one (.fn 171 [] []))::j 2::j 3::(.one (ii 0))::j 5::j 6::(.one (ii l.length))::(.one (ii a.length))::j 9::j 10::j 11::j 12::j 13::j 14::j 15::j 16::j 17::j 18::[])/\True) ?_ ?_ _ _ (a0q (by simp) (by simp))
 ·rintro a x r fr hh hl ⟨j,rfl,_⟩
  have hxm:x ∈ l:=by rw [hl];simp
  have hil:a.length < l.length:=by rw [hl];simp
  have hi:=N6 (P:=prog) (enc:=g9) (s:=2) (l:=l) (i:=a.length) underlying48 (by simp) (by omega) hil
  have hr:=O9 (enc:=g9) (s:=2) C4 a x r (o:=0) (n:=2) (by omega)
  rw [<- hl] at hr
  have hw:IntKind.i64.wrap ((a.length:Int) + 1) = ((a++[x]).length:Int):=by rw [S4];exact J1 (by omega)
  have hx1:=p0H x (hx x hxm)
  rw [hok x hxm] at hx1
  simp only [Nat.add_zero,L4 (C4 _)] at hr
  simp only [List.map_nil,Bool.not_true] at hx1
  generalize hA2:a++[x] = A2 at *
  first | (refine s9 ?_;intro Q4 Y4) | have Y4:=oqk
  repeat' (first
   | (replace Y4:=Y4;simp [hi,hr,hx1,hw,hil])
   | (refine Y4 _ _ _ ?_;clear Y4 Q4;first | simp only [] | simp [hi,hr,hx1,hw,hil,A7,A0,z9,A5,L9,c7,v9,u9,Yb] | skip)
   | (refine F6 (by assumption) ?_;(try clear Y4);first | simp only [] | simp [hi,hr,hx1,hw,hil,A7,A0,z9,A5,L9,c7,v9,u9,Yb] | skip)
   | ((fail_if_success replace Y4:=Y4);(first | refine s9 ?_ | refine A1 ?_ | refine A4 ?_);intro Q4 Y4))
  exact a0q (by simp) trivial
 ·rintro fr hh ⟨j,rfl,_⟩
  first | (refine s9 ?_;intro Q5 Y5) | have Y5:=oqk
  repeat' (first
   | (replace Y5:=Y5;simp [A7])
   | (refine Y5 _ _ _ ?_;clear Y5 Q5;first | simp only [] | simp [A7,A0,z9,A5,L9,c7,v9,u9,Yb] | skip)
   | (refine F6 (by assumption) ?_;(try clear Y5);first | simp only [] | simp [A7,A0,z9,c7,u9,Yb] | skip)
   | ((fail_if_success replace Y5:=Y5);(first | refine s9 ?_ | refine A1 ?_ | refine A4 ?_);intro Q5 Y5))
theorem w0Z (h:H):W K 212 [.one .nilslc,.one (.fn 171 [] [])] h = some (.ret (.one (ii (-1))) h):=by
 refine zzP func212 rfl ?_
 simp only [f212]
 intro Yb Q6 Y6
 repeat' (first
  | (replace Y6:=Y6;simp [A7])
  | refine Y6 _ _ _ ?_)
 refine S0 hp 0 (fun i fr hh=>∃ j,fr = ((.one .nilslc)::j 1::j 2::j 3::j 4::j 5::j 6::(.one (ii 0))::(.one (ii 0))::j 9::j 10::j 11::j 12::j 13::j 14::j 15::j 16::j 17::j 18::[])/\True) ?_ ?_ _ _ (a0q rfl (by simp))
 ·intro i fr hh hi;omega
 ·rintro fr hh ⟨j,rfl,_⟩
  first | (refine s9 ?_;intro Q7 Y7) | have Y7:=oqk
  repeat' (first
   | (replace Y7:=Y7;simp [A7])
   | (refine Y7 _ _ _ ?_;clear Y7 Q7;first | simp only [] | simp [A7,A0,z9,A5,L9,c7,v9,u9,Yb] | skip)
   | (refine F6 (by assumption) ?_;(try clear Y7);first | simp only [] | simp [A7,A0,z9,c7,u9,Yb] | skip)
   | ((fail_if_success replace Y7:=Y7);(first | refine s9 ?_ | refine A1 ?_ | refine A4 ?_);intro Q7 Y7))
theorem n0Y (o:Option (List Named)) (hx:∀ x ∈ ls o,(ls x.r).length < 1000000) (hok:∀ x ∈ ls o,l0L x = true) (ho:(ls o).length < 1000000) (h:H) :
  W K 170 [.one (sl 2 g9 o),.one (.fn 171 [] [])] h = some (.ret (.one (.bool false)) h):=by
 cases o with
 | none =>
  have hi:=w0Z
  simp only [Wm.sl_none]
  refine zzP func170 rfl ?_
  simp only [f170]
  intro Yb Q8 Y8
  repeat' (first
   | (replace Y8:=Y8;simp [hi,A7,A0,z9,c7,u9,Yb])
   | refine Y8 _ _ _ ?_)
 | some l =>
  have hi:=y0z l hx hok ho
  generalize hZ:sl 2 g9 (some l) = Z at *
  have hz:c7 false Z = true:=by rw [<- hZ];exact f0x _
  refine zzP (hv:=by simp [M5,hz,c7,v9]) func170 rfl ?_
  simp only [f170]
  intro Yb Q9 Y9
  repeat' (first
   | (replace Y9:=Y9;simp [hi,A7,A0,z9,c7,u9,Yb])
   | refine Y9 _ _ _ ?_)
theorem j0p (code:Int) (rows:Option (List Named)) (lo hi:BL) (group gen old to do_:Int) (at_:BL) (state:Option BL) (hok:d0G ⟨code,rows,⟨lo,hi⟩,group,gen,old,to,do_,at_,state⟩ = true) (hx:∀ x ∈ ls rows,(ls x.r).length < 1000000) (h:H) :
  W K 121 [.agg [ii code,sl 2 g9 rows,.str lo,.str hi,ii group,ii gen,ii old,ii to,ii do_,.str at_,bs state]] h = some (.ret (.one (.bool true)) h):=by
 have hsp:=a0o lo hi
 simp only [d0G,oqd,oqj,oqn] at hok
 obtain ⟨⟨o1,o2,o3,o4⟩,⟨o5,o6⟩,oR,oN,o7,o8,o9⟩:=hok
 have o8':decide (at_.length <= 16) = true:=by simp [o8]
 have o9':decide ((ls state).length <= 1048576) = true:=by simp [o9]
 have oN':decide ((ls rows).length <= 16) = true:=by simp [oN]
 have hcn:=n0Y rows hx (fun x hxm=>by have:=oR x hxm;simp only [l0L,oqd];exact this) (by omega)
 have hlr:∀ (u:TypeId) (h':H),V9 (sl 2 g9 rows) (some (.slice u)) h' = some (one (ii (ls rows).length) h'):=fun u h'=>a0C ..
 generalize hZ:sl 2 g9 rows = Z at *
 have hz:c7 false Z = true:=by rw [<- hZ];exact f0x _
 refine zzP (hv:=by simp [M5,hz,c7,v9]) func121 rfl ?_
 simp only [f121]
 intro Yb Q10 Y10
 repeat' (first
  | (replace Y10:=Y10;simp [hcn,hlr,hsp,F0d,o1,o2,o3,o4,o5,o6,o7,o8,o9,oN,A7,A0,z9,c7,u9,Yb])
  | refine Y10 _ _ _ ?_)
theorem A0Y {h0 h:H} {q0:Option Nat} {p:Nat} {l:BL} {kept:List (Nat × Blk)} (w:WS h0 q0 h p l kept):J4 h kept:=by obtain ⟨q,_,_,hk,_⟩:=w;exact hk
theorem z0c {h0 h:H} {q0:Option Nat} {p:Nat} {l:BL} {e:Nat × Blk} {kept:List (Nat × Blk)} (w:WS h0 q0 h p l (e::kept)):WS h0 q0 h p l kept:=by
 obtain ⟨q,w,g,hk,hd⟩:=w
 exact ⟨q,w,g,hk.2,fun x hx=>hd x (by simp [hx])⟩
theorem u0f (code:Int) (rows:Option (List Named)) (lo hi:BL) (group gen old to do_:Int) (at_:BL) (state:Option BL) (hok:d0G ⟨code,rows,⟨lo,hi⟩,group,gen,old,to,do_,at_,state⟩ = true) (hx:∀ x ∈ ls rows,(ls x.r).length < 1000000) (hlen:((ls rows).flatMap K9).length <= 1048576) (h:H) :
  W K 76 [.agg [ii code,sl 2 g9 rows,.str lo,.str hi,ii group,ii gen,ii old,ii to,ii do_,.str at_,bs state]] h = some (.ret (.tup [(false,[bs (some (b0I ⟨code,rows,⟨lo,hi⟩,group,gen,old,to,do_,at_,state⟩))]),(false,[ii 0])]) h):=by
 have hR:=j0p code rows lo hi group gen old to do_ at_ state hok hx
 simp only [d0G,oqd,oqj,K4,oqn] at hok
 obtain ⟨⟨o1,o2,o3,o4⟩,⟨o5,o6⟩,oR,oN,⟨⟨o7,o7'⟩,_⟩,o8,o9⟩:=hok
 have hlo:lo.length <= 1048576:=by omega
 have hhi:hi.length <= 1048576:=by omega
 have hat:at_.length <= 1048576:=by omega
 have o9':(ls state).length <= 1048576:=o9
 have hk:=oqk
 have hlr:∀ (u:TypeId) (h':H),V9 (sl 2 g9 rows) (some (.slice u)) h' = some (one (ii (ls rows).length) h'):=fun u h'=>a0C ..
 have hl:(b0I ⟨code,rows,⟨lo,hi⟩,group,gen,old,to,do_,at_,state⟩).length <= 1099511627776:=by
  simp only [b0I,L7,I1,N8,c8,oqa,oqb];omega
 obtain ⟨Z,hZ⟩:∃ Z,sl 2 g9 rows = Z:=⟨_,rfl⟩
 rw [hZ] at hR hlr |-
 have hz:c7 false Z = true:=by rw [<- hZ];exact f0x _
 obtain ⟨B0,hB0⟩:∃ B:Blk,B = ⟨0,[11],true,[ii code,Z,.str lo,.str hi,ii group,ii gen,ii old,ii to,ii do_,.str at_,bs state]⟩:=⟨_,rfl⟩
 have ws:=C0y (H.empty.new ⟨0,[11],true,[ii code,Z,.str lo,.str hi,ii group,ii gen,ii old,ii to,ii do_,.str at_,bs state]⟩) [(0,⟨0,[11],true,[ii code,Z,.str lo,.str hi,ii group,ii gen,ii old,ii to,ii do_,.str at_,bs state]⟩)] (by simp [J4]) (by simp)
 simp only [A6,k0b,Nat.zero_add] at ws
 refine zzP (hv:=by simp [M5,hz,c7,v9]) func76 rfl ?_
 simp only [f76]
 intro Yb Q1 Y1
 repeat' (first
  | (replace Y1:=Y1;simp [hR,q0a,B6,b0h])
  | refine Y1 _ _ _ ?_
  | ((with_reducible refine S7 ?_);first
   | (refine C8 (a0V _) (by first | assumption | exact WS.new (by assumption) _ | exact WS.new (WS.new (by assumption) _) _) (by first | (simp only [oqa,oqb,oqc];omega) | exact hl | omega | (simp only [oqa,oqb,oqc,c8] at hl |-;omega) | (simp at hl |-;omega)) ?_;clear hk;intro h' ws' hk;(try simp only [J4,and_true] at hk);(first | (have hk:=hk;skip) | have hk:=oqk);(try simp [hlr,B6,b0h,hk]))
   | (refine P8 (by first | assumption | omega) (by first | assumption | exact WS.new (by assumption) _ | exact WS.new (WS.new (by assumption) _) _) (by first | (simp only [oqa,oqb,oqc,c8,I1,L7,N8,b0K];omega) | exact hl | omega | (simp only [oqa,oqb,oqc,c8] at hl |-;omega) | (simp at hl |-;omega)) (by first | rfl | simp) ?_;clear hk;intro h' ws' hk;(try simp only [J4,and_true,A6] at hk);(first | (have hk:=hk;skip) | have hk:=oqk);(try simp [hz,hlr,hR,q0a,B6,b0h,A7,A0,z9,A5,L9,c7,v9,u9,Yb,hk])))
  | (rw [n0G ws' (by first | omega | (simp only [oqa,oqb,oqc,c8,I1,L7,N8,b0K];omega) | (simp only [oqa,oqb,oqc,c8] at hl |-;omega) | (simp at hl |-;omega)) (by simp)];simp [hz,hlr,hR,q0a,B6,b0h,A7,A0,z9,A5,L9,c7,v9,u9,Yb,hk]))
 obtain ⟨I,hI⟩:∃ I:List Named->List Named->Fr->H->Prop,I = fun a r fr hh=>WS ((H.empty.new ⟨0,[11],true,[ii code,Z,.str lo,.str hi,ii group,ii gen,ii old,ii to,ii do_,.str at_,bs state]⟩).new ⟨0,[1],true,[.nilslc]⟩) none hh 1 (u8 code::u8 (ls rows).length::a.flatMap K9) [(0,⟨0,[11],true,[ii code,Z,.str lo,.str hi,ii group,ii gen,ii old,ii to,ii do_,.str at_,bs state]⟩)]/\∃ j:Nat->AV,fr = (j 0::(.one (.ptr 0 0 0))::j 2::j 3::(.one (.ptr 1 0 0))::j 5::j 6::j 7::j 8::j 9::j 10::j 11::j 12::j 13::j 14::j 15::j 16::j 17::j 18::j 19::j 20::j 21::j 22::(.one Z)::(.one (ii (ls rows).length))::(.one (ii a.length))::j 26::j 27::j 28::j 29::j 30::j 31::j 32::j 33::j 34::j 35::j 36::j 37::j 38::j 39::j 40::j 41::j 42::j 43::j 44::j 45::j 46::j 47::j 48::j 49::j 50::j 51::j 52::j 53::j 54::j 55::j 56::j 57::j 58::j 59::j 60::j 61::j 62::j 63::j 64::j 65::j 66::j 67::j 68::j 69::j 70::j 71::j 72::j 73::j 74::j 75::j 76::[]):=⟨_,rfl⟩
 refine I8 hp (ls rows) I ?_ ?_ _ _ (by rw [hI];exact ⟨by simpa using ws',y0 (by simp)⟩)
 clear ws'
 ·intro a x r fr hh hll hx2
  rw [hI] at hx2
  obtain ⟨ws',j,rfl⟩:=hx2
  have hk:=A0Y ws'
  simp only [J4,and_true] at hk
  have hxm:x ∈ ls rows:=by rw [hll];simp
  have hx0:=hx x hxm
  have hxo:=oR x hxm
  have hil:a.length < (ls rows).length:=by rw [hll];simp
  have hrs:=a0R hll
  have hix:=N6 (P:=prog) (enc:=g9) (s:=2) (l:=ls rows) (i:=a.length) underlying48 (by simp) (by omega) hil
  have hso:some (ls rows) = rows:=by rw [hll];exact hrs.symm
  rw [hso,hZ] at hix
  have hrd:=O9 (enc:=g9) (s:=2) C4 a x r (o:=0) (n:=2) (by omega)
  rw [<- hll] at hrd
  simp only [Nat.add_zero,L4 (C4 _)] at hrd
  have hw:IntKind.i64.wrap ((a.length:Int) + 1) = (a.length:Int) + 1:=J1 (by omega)
  have hlf:((ls rows).flatMap K9).length = (a.flatMap K9).length + ((K9 x).length + (r.flatMap K9).length):=by rw [hll];simp only [List.flatMap_append,List.flatMap_cons,oqa]
  obtain ⟨xn,xr⟩:=x
  simp only [g9] at hrd
  simp only [J9,oqd,oqj] at hxo
  simp only at hx0
  have hx1:xn.length <= 1048576:=by omega
  obtain ⟨A,hA⟩:∃ A,u8 code::u8 (ls rows).length::a.flatMap K9 = A:=⟨_,rfl⟩
  have hAl:A.length = 2 + (a.flatMap K9).length:=by rw [<- hA];simp;omega
  have hAe:u8 code::u8 (ls rows).length::(a++[(⟨xn,xr⟩:Named)]).flatMap K9 = A++(I1 xn++g0K xr):=by rw [<- hA];simp [K9]
  rw [hA] at ws'
  clear hl
  have hl:A.length + (4 + xn.length + (g0K xr).length) <= 1099511627776:=by
   simp only [K9,I1,oqa,c8] at hlf;omega
  first | (refine s9 ?_;intro Q2 Y2) | have Y2:=oqk
  repeat' (first
   | (replace Y2:=Y2;simp [hix,hrd,hil])
   | (refine Y2 _ _ _ ?_;clear Y2 Q2;first | simp only [] | simp [hz,hix,hrd,hil,hw,B6,W4,c0a hx1,A7,A0,z9,A5,L9,c7,v9,u9,Yb,hk] | skip)
   | (refine F6 (by assumption) ?_;(try clear Y2);first | simp only [] | simp [hz,hix,hrd,hil,hw,B6,W4,c0a hx1,A7,A0,z9,A5,L9,c7,v9,u9,Yb,hk] | skip)
   | ((fail_if_success replace Y2:=Y2);(first | refine s9 ?_ | refine A1 ?_ | refine A4 ?_);intro Q2 Y2)
   | ((with_reducible refine S7 ?_);first
    | (refine C8 (A0P xr hx0) (by first | assumption | exact WS.new (by assumption) _ | exact WS.new (WS.new (by assumption) _) _) (by first | (simp only [oqa,c8,I1];omega) | exact hl | omega | (simp only [oqa,oqb,oqc,c8] at hl |-;omega) | (simp at hl |-;omega)) ?_;clear hk;intro h' ws' hk;(try simp only [J4,and_true] at hk);(first | (have hk:=hk;skip) | have hk:=oqk);(try simp [hw]))
    | (refine C8 (m0r xn hx1) (by first | assumption | exact WS.new (by assumption) _ | exact WS.new (WS.new (by assumption) _) _) (by first | (simp only [oqa,c8,I1];omega) | exact hl | omega | (simp only [oqa,oqb,oqc,c8] at hl |-;omega) | (simp at hl |-;omega)) ?_;clear hk;intro h' ws' hk;(try simp only [J4,and_true] at hk);(first | (have hk:=hk;skip) | have hk:=oqk);(try simp [hk]))
    | (refine P8 (by first | assumption | omega) (by first | assumption | exact WS.new (by assumption) _ | exact WS.new (WS.new (by assumption) _) _) (by first | (simp only [oqa,oqb,oqc,c8,I1,L7,N8,b0K];omega) | exact hl | omega | (simp only [oqa,oqb,oqc,c8] at hl |-;omega) | (simp at hl |-;omega)) (by first | rfl | simp) ?_;clear hk;intro h' ws' hk;(try simp only [J4,and_true,A6] at hk);(first | (have hk:=hk;skip) | have hk:=oqk);(try simp [hz,hix,hrd,hil,hw,B6,W4,c0a hx1,A7,A0,z9,A5,L9,c7,v9,u9,Yb,hk])))
   | (rw [n0G ws' (by first | omega | (simp only [oqa,oqb,oqc,c8,I1,L7,N8,b0K];omega) | (simp only [oqa,oqb,oqc,c8] at hl |-;omega) | (simp at hl |-;omega)) (by simp)];simp [hz,hix,hrd,hil,hw,B6,W4,c0a hx1,A7,A0,z9,A5,L9,c7,v9,u9,Yb,hk]))
  rw [hI]
  refine ⟨?_,y0 (by simp)⟩
  rw [hAe]
  simpa [oqh] using z0c ws'
 ·intro fr hh hx2
  rw [hI] at hx2
  obtain ⟨ws',j,rfl⟩:=hx2
  have hk:=A0Y ws'
  simp only [J4,and_true] at hk
  have hsp:=w0T lo hi hlo hhi
  simp only [b0I,oqb,oqa] at hl
  obtain ⟨A,hA⟩:∃ A,(ls rows).flatMap K9 = A:=⟨_,rfl⟩
  rw [hA] at ws' hl
  first | (refine s9 ?_;intro Q3 Y3) | have Y3:=oqk
  repeat' (first
   | (replace Y3:=Y3;simp [hk])
   | (refine Y3 _ _ _ ?_;clear Y3 Q3;first | simp only [] | simp [B6,b0h,A7,A0,z9,A5,L9,c7,v9,u9,Yb,hk] | skip)
   | (refine F6 (by assumption) ?_;(try clear Y3);first | simp only [] | simp [A7,A0,z9,A5,L9,c7,u9,Yb] | skip)
   | ((fail_if_success replace Y3:=Y3);(first | refine s9 ?_ | refine A1 ?_ | refine A4 ?_);intro Q3 Y3)
   | ((with_reducible refine S7 ?_);first
    | (refine C8 (a0V _) (by first | assumption | exact WS.new (by assumption) _ | exact WS.new (WS.new (by assumption) _) _) (by first | (simp only [oqa,oqb,oqc,c8,I1,L7,N8];omega) | exact hl | omega | (simp only [oqa,oqb,oqc] at hl |-;omega) | (simp at hl |-;omega)) ?_;clear hk;intro h' ws' hk;(try simp only [J4,and_true] at hk);(first | (have hk:=hk;skip) | have hk:=oqk);(try simp [B6,b0h,hk]))
    | (refine C8 (w0T lo hi hlo hhi) (by first | assumption | exact WS.new (by assumption) _ | exact WS.new (WS.new (by assumption) _) _) (by first | (simp only [oqa,oqb,oqc,c8,I1,L7,N8];omega) | exact hl | omega | (simp only [oqa,oqb,oqc] at hl |-;omega) | (simp at hl |-;omega)) ?_;clear hk;intro h' ws' hk;(try simp only [J4,and_true] at hk);(first | (have hk:=hk;skip) | have hk:=oqk);(try simp [B6,b0h,hk]))
    | (refine C8 (j0a _) (by first | assumption | exact WS.new (by assumption) _ | exact WS.new (WS.new (by assumption) _) _) (by first | (simp only [oqa,oqb,oqc,c8,I1,L7,N8];omega) | exact hl | omega | (simp only [oqa,oqb,oqc] at hl |-;omega) | (simp at hl |-;omega)) ?_;clear hk;intro h' ws' hk;(try simp only [J4,and_true] at hk);(first | (have hk:=hk;skip) | have hk:=oqk);(try simp [B6,hk]))
    | (refine C8 (m0r at_ hat) (by first | assumption | exact WS.new (by assumption) _ | exact WS.new (WS.new (by assumption) _) _) (by first | (simp only [oqa,oqb,oqc,c8,I1,L7,N8];omega) | exact hl | omega | (simp only [oqa,oqb,oqc] at hl |-;omega) | (simp at hl |-;omega)) ?_;clear hk;intro h' ws' hk;(try simp only [J4,and_true] at hk);(first | (have hk:=hk;skip) | have hk:=oqk);(try simp [hk]))
    | (refine C8 (r0v state o9) (by first | assumption | exact WS.new (by assumption) _ | exact WS.new (WS.new (by assumption) _) _) (by first | (simp only [oqa,oqb,oqc,c8,I1,L7,N8];omega) | exact hl | omega | (simp only [oqa,oqb,oqc] at hl |-;omega) | (simp at hl |-;omega)) ?_;clear hk;intro h' ws' hk;(try simp only [J4,and_true] at hk);(first | (have hk:=hk;skip) | have hk:=oqk);(try simp [B6]))
    | (refine P8 (by first | assumption | omega) (by first | assumption | exact WS.new (by assumption) _ | exact WS.new (WS.new (by assumption) _) _) (by first | (simp only [oqa,oqb,oqc,c8,I1,L7,N8];omega) | exact hl | omega | (simp only [oqa,oqb,oqc] at hl |-;omega) | (simp at hl |-;omega)) (by first | rfl | simp) ?_;clear hk;intro h' ws' hk;(try simp only [J4,and_true,A6] at hk);(first | (have hk:=hk;skip) | have hk:=oqk);(try simp [B6,b0h,A7,A0,z9,A5,L9,c7,v9,u9,Yb,hk])))
   | (rw [n0G ws' (by first | omega | (simp only [oqa,oqb,oqc,c8,I1,L7,N8];omega) | (simp only [oqa,oqb,oqc] at hl |-;omega) | (simp at hl |-;omega)) (by simp)];simp [B6]))
  all_goals (simp only [b0I,hA])
theorem m0N {X F F' Y:List Nat} (h:(X++(F++Y)).Nodup) (h':F'.Nodup) (hd:∀ b ∈ F',b ∈ F \/ (b ∉ X/\b ∉ Y)):(X++(F'++Y)).Nodup:=by
 rw [List.nodup_append,List.nodup_append] at h |-
 obtain ⟨h1,⟨h2,h3,h4⟩,h5⟩:=h
 refine ⟨h1,⟨h',h3,fun a ha b hb e=>?_⟩,fun a ha b hb e=>?_⟩
 ·subst e
  rcases hd a ha with h | h
  ·exact h4 a h a hb rfl
  ·exact h.2 hb
 ·subst e
  rcases oqe.1 hb with hb | hb
  ·rcases hd a hb with h | h
   ·exact h5 a ha a (by simp [h]) rfl
   ·exact h.1 ha
  ·exact h5 a ha a (by simp [hb]) rfl
theorem b0y (s:Nat) (sp:AS) (l1:List Pt) (p:Pt) (l2:List Pt):fpS s sp (l1++p::l2) = (s::((z7 sp).toList++l1.flatMap (·.fp)))++(p.fp++l2.flatMap (·.fp)):=by simp [fpS]
theorem StAt.at {h:H} {s:Nat} {sp:AS} {l1 l2:List Pt} {p:Pt} {last code:Int} (w:StAt h s sp (l1++p::l2) last code):TabAt h p.d p.t p.fp/\p.fp.Nodup/\(∀ b ∈ p.fp,b ≠ s/\z7 sp ≠ some b/\∀ q ∈ l1++l2,b ∉ q.fp):=by
 have hn:=w.nd
 rw [b0y] at hn
 rw [List.nodup_append,List.nodup_append] at hn
 obtain ⟨h1,⟨h2,h3,h4⟩,h5⟩:=hn
 refine ⟨w.tabs p (by simp),h2,fun b hb=>⟨fun e=>h5 s (by simp) b (by simp [hb]) e.symm,fun e=>h5 b (by simp [e]) b (by simp [hb]) rfl,fun q hq hbq=>?_⟩⟩
 rcases oqe.1 hq with hq | hq
 ·exact h5 b (by simp only [oqf,oqe,List.mem_flatMap];exact .inr (.inr ⟨q,hq,hbq⟩)) b (by simp [hb]) rfl
 ·exact h4 b hb b (by simp only [List.mem_flatMap];exact ⟨q,hq,hbq⟩) rfl
theorem StAt.put {h h':H} {s:Nat} {sp:AS} {l1 l2:List Pt} {p p':Pt} {last code:Int} (w:StAt h s sp (l1++p::l2) last code) (hd:p'.d = p.d) (ht:TabAt h' p'.d p'.t p'.fp) (g:Fp h h' p.fp p'.fp) (hn':p'.fp.Nodup) :
  StAt h' s sp (l1++p'::l2) last code/\Fp h h' (fpS s sp (l1++p::l2)) (fpS s sp (l1++p'::l2)):=by
 obtain ⟨a1,a2,a3⟩:=w.at
 have hlt:=w.fp_lt
 have hsame:∀ b ∈ fpS s sp (l1++p::l2),b ∉ p.fp->h'.f b = h.f b:=fun b hb hbp=>g.keep b (hlt b hb) hbp
 have hnd:=w.nd
 have hc:cat X2 (l1++p'::l2) = cat X2 (l1++p::l2):=by simp only [a0Q,X4,X2,hd]
 have hll:(l1++p'::l2).length = (l1++p::l2).length:=by simp
 refine ⟨⟨oqp w.lt g.next, ?_, ?_,fun q hq=>?_, ?_⟩,⟨g.next,fun b hb hbn=>g.keep b hb fun hc=>hbn ?_,fun b hb=>?_⟩⟩
 ·rw [hsame s (by simp [fpS]) (fun hs=>(a3 s hs).1 rfl)];exact w.blk
 ·have hsp:=w.spine.keep (h':=h') g.next fun b hb=>hsame b (by simp [fpS,hb]) (fun hs=>(a3 b hs).2.1 hb)
  rcases hsp with ⟨_,e⟩ | ⟨b,v,z,e,ar⟩
  ·simp at e
  ·refine .inr ⟨b,v,z,by rw [hll];exact e, ?_⟩
   unfold Arr at ar |-
   rw [hc];exact ar
 ·rcases oqe.1 hq with hq | hq
  ·refine (w.tabs q (by simp [hq])).keep g.next fun b hb=>hsame b ?_ fun hs=>(a3 b hs).2.2 q (by simp [hq]) hb
   simp only [fpS,oqf,oqe,List.mem_flatMap]
   exact .inr (.inr ⟨q,by simp [hq],hb⟩)
  ·rcases oqf.1 hq with rfl | hq
   ·exact ht
   ·refine (w.tabs q (by simp [hq])).keep g.next fun b hb=>hsame b ?_ fun hs=>(a3 b hs).2.2 q (by simp [hq]) hb
    simp only [fpS,oqf,oqe,List.mem_flatMap]
    exact .inr (.inr ⟨q,by simp [hq],hb⟩)
 ·rw [b0y] at hnd |-
  refine m0N hnd hn' fun b hb=>?_
  rcases g.own b hb with h | h
  ·exact .inl h
  ·right
   refine ⟨fun hx=>?_,fun hx=>?_⟩
   ·have:=hlt b (by rw [b0y];exact List.mem_append_left _ hx);omega
   ·have:=hlt b (by rw [b0y];simp only [oqe];exact .inr (.inr hx));omega
 ·rw [b0y];simp only [oqe];exact .inr (.inl hc)
 ·rw [b0y] at hb |-
  simp only [oqe] at hb |-
  rcases hb with hb | hb | hb
  ·exact .inl (.inl hb)
  ·rcases g.own b hb with h | h
   ·exact .inl (.inr (.inl h))
   ·exact .inr h
  ·exact .inl (.inr (.inr hb))
end Go.Proofs.YtiagcnfmgigllaaGreat
