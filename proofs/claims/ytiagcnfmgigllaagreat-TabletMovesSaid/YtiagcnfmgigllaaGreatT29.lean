/- A part of a proof over the abstract machine. No conditions. -/
import Derived.Test.YtiagcnfmgigllaaGreatT24
set_option linter.all false
namespace Go.Proofs.YtiagcnfmgigllaaGreat
open Go Go.Ab Wm NumPlain Go.Proofs.Tryz
set_option maxRecDepth 10000
set_option maxHeartbeats 4000000
theorem y0p (c:Int) (h:H):W K 37 [.one (ii c)] h = some (.ret (.agg (l8 (noA c))) h):=by
 simp only [noA,l8,Wm.sl_none,C4]
 have hown:A8 S.own 37 = false:=by kernel_rfl
 refine p7 hp (by simp [s7,c5]) (c6 rfl rfl (by kernel_rfl) func37 rfl (by simp [Tryz.f37]) ?_)
 simp only [Tryz.f37]
 refine c7 ?_;intro Q1 hQ1
 repeat' (first
  | (replace hQ1:=hQ1;simp [u6,u5,p9,c5,l5,hown])
  | refine hQ1 _ _ _ ?_)
theorem y0M {h h1:H} {b:Nat} {n:BL} {r:Row} (hb:h.next ≤ b) (hlt:b < h1.next) (hf:h1.f b = some ⟨0,[2],true,[.str n,sl 2 j9 r]⟩) (hn:h.next ≤ h1.next) (hs:∀ c,c < h.next→h1.f c = h.f c) {Q:CR→Prop}
  (hq:Q (.ret (.agg (l8 ⟨0,some [⟨n,r⟩],⟨[],[]⟩,0,0,0,0,0,[],none⟩)) h)):g0M false h Q (.ret (.agg [ii 0,.slc b 0 0 1 2 none,.str [],.str [],ii 0,ii 0,ii 0,ii 0,ii 0,.str [],.nilslc]) h1):=by
 have a:Sl h1 2 c8 (.slc b 0 0 1 2 none) [⟨n,r⟩]:=.inr ⟨b,0,[],rfl,hlt,true,[],by simp [hf,cat,c8]⟩
 obtain ⟨o,_,h2,_,_,h5⟩:=m0O (h:=h) z9 b0X a (fun c hc=>by cases hc;exact hb) 62
 have ho:=h2 (by simp)
 subst ho
 refine ⟨_,o0p (v':=.agg (l8 ⟨0,some [⟨n,r⟩],⟨[],[]⟩,0,0,0,0,0,[],none⟩)) (by simp [a0J,l0,c5]) ⟨hn,fun c hc=>.inl (hs c hc)⟩ ?_,by rw [f0y hs];exact hq⟩
 simp only [u5,List.mapM_cons,List.mapM_nil,h5,oqE,oqS,oqP,l8,C4]
 simp [p9,c5]
theorem x0e (a:Answer):l0 false (l8 a) = true:=by simp [l8,l0,c5]
theorem H0z {h:H} {d pr:Nat} {qr:Option Nat} {l:List Named} {sp:Span} {gen:Int} {fr:Bool} {pc:AS} (B5:Int) (C7:BL) (I0:BL) (p5:Bool) (l6:Bool) (p4:BL) (i9:Int) (l9:Option BL) (p6:Nat) (o_l:Option (List Change)) (A7:Int) (hd:h.f d = some (a0l sp gen fr (.ptr pr 0 0) pc)) (hdn:d < h.next) (w:Bx h pr 2 c8 l qr) (ok:TblOk l) (hb:i9 = 1→(ls l9).length ≤ 1099511627776) :
  ∃ h' q',W K 75 [.one (.ptr d 0 0),.agg [ii B5,.str C7,.str I0,.bool p5,.bool l6,.str p4,ii i9,bs l9,.flt p6,sl 6 l7 o_l,ii A7]] h = some (.ret (.agg (l8 (opT sp l ⟨B5,C7,I0,⟨p5,l6,p4,⟨i9,l9,p6⟩⟩,o_l,A7⟩).1)) h')∧Bx h' pr 2 c8 (opT sp l ⟨B5,C7,I0,⟨p5,l6,p4,⟨i9,l9,p6⟩⟩,o_l,A7⟩).2 q'∧Only h h' pr qr q':=by
 obtain ⟨B0,hB0⟩:∃ B:Blk,B = ⟨0,[11],true,[ii B5,.str C7,.str I0,.bool p5,.bool l6,.str p4,ii i9,bs l9,.flt p6,sl 6 l7 o_l,ii A7]⟩:=⟨_,rfl⟩
 obtain ⟨B1,hB1⟩:∃ B:Blk,B = ⟨0,[11],true,[ii 0,.nilslc,.str [],.str [],ii 0,ii 0,ii 0,ii 0,ii 0,.str [],.nilslc]⟩:=⟨_,rfl⟩
 have hne:¬ d = h.next:=by omega
 have hne1:¬ d = h.next + 1:=by omega
 have hne2:¬ d = h.next + 1 + 1:=by omega
 obtain ⟨slo,shi⟩:=sp
 simp only [a0l] at hd
 obtain ⟨res,hres⟩:∃ res,opT ⟨slo,shi⟩ l ⟨B5,C7,I0,⟨p5,l6,p4,⟨i9,l9,p6⟩⟩,o_l,A7⟩ = res:=⟨_,rfl⟩
 rw [hres]
 unfold opT at hres
 simp only at hres
 suffices key:∃ r,W K 75 [.one (.ptr d 0 0),.agg [ii B5,.str C7,.str I0,.bool p5,.bool l6,.str p4,ii i9,bs l9,.flt p6,sl 6 l7 o_l,ii A7]] h = some r∧∃ h' q',r = .ret (.agg (l8 res.1)) h'∧Bx h' pr 2 c8 res.2 q'∧Only h h' pr qr q' by
  obtain ⟨r,e,h',q',rfl,k⟩:=key
  exact ⟨h',q',e,k⟩
 obtain ⟨P,hP⟩:∃ P:CR→Prop,P = fun r=>∃ h' q',r = .ret (.agg (l8 res.1)) h'∧Bx h' pr 2 c8 res.2 q'∧Only h h' pr qr q':=⟨_,rfl⟩
 suffices hh:∃ r,W K 75 [.one (.ptr d 0 0),.agg [ii B5,.str C7,.str I0,.bool p5,.bool l6,.str p4,ii i9,bs l9,.flt p6,sl 6 l7 o_l,ii A7]] h = some r∧P r by rw [hP] at hh;exact hh
 have fin:∀ (a:Answer) (h1:H) (q':Option Nat),a = res.1→Bx h1 pr 2 c8 res.2 q'→Only h h1 pr qr q'→g0M false h P (.ret (.agg (l8 a)) h1):=fun a h1 q' ha hbx ho=>by
  refine p0f (by simp [a0J,x0e]) ?_
  rw [hP];exact ⟨h1,q',by rw [ha],hbx,ho⟩
 by_cases k1:B5 = 1
 ·rw [if_pos k1] at hres
  subst k1
  have hf1:=r0Q ((w.new B0).new B1) ok C7
  cases ht:(W7 l C7).2 with
  | false =>
   rw [ht] at hres hf1
   simp only [oqF,if_false] at hres
   have hno:=y0p 0
   have fr2:∀ (K1 K2 K3:Blk) (c:Nat),c < h.next→(((((h.new B0).new B1).new K1).set (h.next + 1 + 1) K2).set (h.next + 1) K3).f c = h.f c:=fun K1 K2 K3 c hc=>by
    rw [p0,if_neg (by omega),p0,if_neg (by omega),u4 (by simp;omega),u4 (by simp;omega),u4 (by omega)]
   have f2:=fun K1 K2 K3:Blk=>fin (noA 0) (((((h.new B0).new B1).new K1).set (h.next + 1 + 1) K2).set (h.next + 1) K3) qr (by rw [← hres]) (by rw [← hres];exact w.keep (by simp;omega) (fr2 K1 K2 K3 pr w.1) fun c hc=>fr2 K1 K2 K3 c (w.lt hc)) ⟨by simp;omega,fun c hc _ _=>fr2 K1 K2 K3 c hc,.inl rfl⟩
   rw [hB0,hB1] at hf1 f2
   simp only [l8,noA,Wm.sl_none,C4] at hno f2
   simp only [D6] at hf1
   refine N4 hp rfl rfl rfl rfl func75 rfl (by simp [Tryz.f75]) ?_
   simp only [Tryz.f75]
   refine c7 ?_;intro Q2 hQ2
   repeat' (first
    | (replace hQ2:=hQ2;simp [hd,hne,hne1,hf1,hno])
    | refine hQ2 _ _ _ ?_
    | (first | refine dF (id:=3) [0,1,2,3,4,5,6,7,8,9,10,11,12] [] ?_ | refine dF (id:=12) [0,1,2,3,4,5,6,7,8,9,10,11,12,13,14] [] ?_))
   all_goals exact f2 _ _ _
  | true =>
   rw [ht] at hres hf1
   simp only [if_true] at hres
   simp only [D6] at hf1
   rw [hB0,hB1] at hf1
   refine N4 hp rfl rfl rfl rfl func75 rfl (by simp [Tryz.f75]) ?_
   simp only [Tryz.f75]
   refine c7 ?_;intro Q3 hQ3
   repeat' (first
    | (replace hQ3:=hQ3;simp [hd,hne,hne1,hf1,k0n])
    | refine hQ3 _ _ _ ?_
    | (first | refine dF (id:=3) [0,1,2,3,4,5,6,7,8,9,10,11,12] [] ?_ | refine dF (id:=12) [0,1,2,3,4,5,6,7,8,9,10,11,12,13,14] [] ?_))
   refine y0M (n:=C7) (r:=(W7 l C7).1) (by first | omega | (simp;done) | (simp;omega)) (by first | omega | (simp;done) | (simp;omega)) (by simp) (by first | omega | (simp;done) | (simp;omega)) (fun c hc=>?_) ?_
   ·have g1:¬ c = h.next:=by omega
    have g2:¬ c = h.next + 1:=by omega
    have g3:¬ c = h.next + 1 + 1:=by omega
    have g4:¬ c = h.next + 1 + 1 + 1:=by omega
    simp [K9,p0,g1,g2,g3,g4]
   rw [hP,← hres]
   exact ⟨h,qr,rfl,w,f0x _ _ _⟩
 ·rw [if_neg k1] at hres
  have k1b:(B5 == 1) = false:=by simp [k1]
  by_cases k2:B5 = 2
  ·rw [if_pos k2] at hres
   subst k2
   have hd':((h.new B0).new B1).f d = some (a0l ⟨slo,shi⟩ gen fr (.ptr pr 0 0) pc):=by rw [u4 (by simp;omega),u4 (by omega)];exact hd
   obtain ⟨h',q',e,b,o⟩:=x0b 2 C7 I0 p5 l6 p4 i9 l9 p6 o_l A7 hd' (by simp;omega) ((w.new B0).new B1) ok hb
   have hm1:(c0t l ⟨2,C7,I0,⟨p5,l6,p4,⟨i9,l9,p6⟩⟩,o_l,A7⟩) = (c0t l ⟨2,C7,I0,⟨p5,l6,p4,⟨i9,l9,p6⟩⟩,o_l,A7⟩):=rfl
   generalize c0t l ⟨2,C7,I0,⟨p5,l6,p4,⟨i9,l9,p6⟩⟩,o_l,A7⟩ = M at *
   have on:=o.next
   simp only [A1] at on
   have hno:=y0p M.2
   have wp:pr ≠ h.next + 1:=by have:=w.1;omega
   have hf1:h'.f (h.next + 1) = some B1:=by rw [o.keep (h.next + 1) (by simp) (Ne.symm wp) (fun e=>by have:=w.lt e;omega)];simp
   have own':q' = qr ∨ ∃ x,q' = some x∧h.next + 1 + 1 ≤ x:=by
    rcases o.own with e | ⟨x,e,hx⟩
    ·exact .inl e
    ·simp at hx;exact .inr ⟨x,e,hx⟩
   have hq1:q' ≠ some (h.next + 1):=fun hc=>by
    rcases own' with e | ⟨x,e,hx⟩
    ·rw [hc] at e;have:=w.lt e.symm;omega
    ·rw [hc] at e;cases e;omega
   have hbx:∀ k:Blk,Bx (h'.set (h.next + 1) k) pr 2 c8 M.1 q':=fun k=>b.keep (by simp) (by rw [p0,if_neg wp]) fun c hc=>by rw [p0,if_neg (fun hcc=>hq1 (by rw [hc,hcc]))]
   have hon:∀ k:Blk,Only h (h'.set (h.next + 1) k) pr qr q':=fun k=>⟨by simp;omega,fun c hc h1 h2=>by rw [p0,if_neg (by omega),o.keep c (by simp;omega) h1 h2,u4 (by simp;omega),u4 (by omega)],by
    rcases own' with e | ⟨x,e,hx⟩
    ·exact .inl e
    ·exact .inr ⟨x,e,by omega⟩⟩
   have f2:=fun (k:Blk)=>fin (noA M.2) (h'.set (h.next + 1) k) q' (by rw [← hres]) (by rw [← hres];exact hbx k) (hon k)
   rw [hB0,hB1] at e
   rw [hB1] at hf1
   simp only [l8,noA,Wm.sl_none,C4] at hno f2
   refine N4 hp rfl rfl rfl rfl func75 rfl (by simp [Tryz.f75]) ?_
   simp only [Tryz.f75]
   refine c7 ?_;intro Q4 hQ4
   repeat' (first
    | (replace hQ4:=hQ4;simp [e,hno,hf1])
    | refine hQ4 _ _ _ ?_
    | (first | refine dF (id:=3) [0,1,2,3,4,5,6,7,8,9,10,11,12] [] ?_ | refine dF (id:=12) [0,1,2,3,4,5,6,7,8,9,10,11,12,13,14] [] ?_))
   all_goals exact f2 _
  ·rw [if_neg k2] at hres
   have k2b:(B5 == 2) = false:=by simp [k2]
   have hr:=o0B ((w.new B0).new B1) ok C7 (hiT ⟨slo,shi⟩ I0) A7
   obtain ⟨rg,hrg⟩:∃ rg,T8 l C7 (hiT ⟨slo,shi⟩ I0) A7 = rg:=⟨_,rfl⟩
   rw [hrg] at hr hres
   have f2:=fin res.1 ((h.new B0).new (⟨0,[11],true,l8 res.1⟩:Blk)) qr rfl (by rw [← hres];exact (w.new _).new _) (a0x (a0x (f0x _ _ _)))
   rw [hB0] at f2 hr
   rw [hB1] at hr
   clear fin
   by_cases n0:rg.2 = []
   ·rw [if_pos n0] at hres
    rw [n0] at hr
    by_cases h0:I0 = []
    ·have hh:hiT ⟨slo,shi⟩ I0 = shi:=by simp [hiT,h0]
     rw [hh] at hr hres
     subst h0
     rw [← hres] at f2
     simp only [l8,C4] at f2
     refine N4 hp rfl rfl rfl rfl func75 rfl (by simp [Tryz.f75]) ?_
     simp only [Tryz.f75]
     refine c7 ?_;intro Q5 hQ5
     repeat' (first
      | (replace hQ5:=hQ5;simp [J7,hd,hne,hne1,k1b,k2b,hr,P8])
      | refine hQ5 _ _ _ ?_
      | (first | refine dF (id:=3) [0,1,2,3,4,5,6,7,8,9,10,11,12] [] ?_ | refine dF (id:=12) [0,1,2,3,4,5,6,7,8,9,10,11,12,13,14] [] ?_))
     all_goals exact f2
    ·have h0b:(I0 == []) = false:=by simp [h0]
     have h0c:(I0 != []) = true:=by simp [h0]
     by_cases s0:shi = []
     ·have hh:hiT ⟨slo,shi⟩ I0 = I0:=by simp [hiT,h0,s0]
      rw [hh] at hr hres
      subst s0
      rw [← hres] at f2
      simp only [l8,C4] at f2
      refine N4 hp rfl rfl rfl rfl func75 rfl (by simp [Tryz.f75]) ?_
      simp only [Tryz.f75]
      refine c7 ?_;intro Q6 hQ6
      repeat' (first
       | (replace hQ6:=hQ6;simp [J7,hd,hne,hne1,k1b,k2b,h0b,hr,P8])
       | refine hQ6 _ _ _ ?_
       | (first | refine dF (id:=3) [0,1,2,3,4,5,6,7,8,9,10,11,12] [] ?_ | refine dF (id:=12) [0,1,2,3,4,5,6,7,8,9,10,11,12,13,14] [] ?_))
      all_goals exact f2
     ·have s0b:(shi == []) = false:=by simp [s0]
      cases bl:Op.bytesLess I0 shi with
      | true =>
       have hh:hiT ⟨slo,shi⟩ I0 = I0:=by simp [hiT,h0,blt,bl]
       rw [hh] at hr hres
       rw [← hres] at f2
       simp only [l8,C4] at f2
       refine N4 hp rfl rfl rfl rfl func75 rfl (by simp [Tryz.f75]) ?_
       simp only [Tryz.f75]
       refine c7 ?_;intro Q7 hQ7
       repeat' (first
        | (replace hQ7:=hQ7;simp [J7,hd,hne,hne1,k1b,k2b,h0b,s0b,bl,hr,P8])
        | refine hQ7 _ _ _ ?_
        | (first | refine dF (id:=3) [0,1,2,3,4,5,6,7,8,9,10,11,12] [] ?_ | refine dF (id:=12) [0,1,2,3,4,5,6,7,8,9,10,11,12,13,14] [] ?_))
       all_goals exact f2
      | false =>
       have hh:hiT ⟨slo,shi⟩ I0 = shi:=by simp [hiT,s0,blt,bl]
       rw [hh] at hr hres
       rw [← hres] at f2
       simp only [l8,C4] at f2
       refine N4 hp rfl rfl rfl rfl func75 rfl (by simp [Tryz.f75]) ?_
       simp only [Tryz.f75]
       refine c7 ?_;intro Q8 hQ8
       repeat' (first
        | (replace hQ8:=hQ8;simp [J7,hd,hne,hne1,k1b,k2b,h0b,s0b,bl,hr,P8])
        | refine hQ8 _ _ _ ?_
        | (first | refine dF (id:=3) [0,1,2,3,4,5,6,7,8,9,10,11,12] [] ?_ | refine dF (id:=12) [0,1,2,3,4,5,6,7,8,9,10,11,12,13,14] [] ?_))
       all_goals exact f2
   ·rw [if_neg n0] at hres
    have n0b:(rg.2 == []) = false:=by simp [n0]
    have n0c:(rg.2 != []) = true:=by simp [n0]
    rw [← hres] at f2
    simp only [l8,C4] at f2
    by_cases h0:I0 = []
    ·have hh:hiT ⟨slo,shi⟩ I0 = shi:=by simp [hiT,h0]
     rw [hh] at hr
     subst h0
     refine N4 hp rfl rfl rfl rfl func75 rfl (by simp [Tryz.f75]) ?_
     simp only [Tryz.f75]
     refine c7 ?_;intro Q9 hQ9
     repeat' (first
      | (replace hQ9:=hQ9;simp [J7,hd,hne,hne1,k1b,k2b,n0b,hr,P8])
      | refine hQ9 _ _ _ ?_
      | (first | refine dF (id:=3) [0,1,2,3,4,5,6,7,8,9,10,11,12] [] ?_ | refine dF (id:=12) [0,1,2,3,4,5,6,7,8,9,10,11,12,13,14] [] ?_))
     all_goals exact f2
    ·have h0b:(I0 == []) = false:=by simp [h0]
     have h0c:(I0 != []) = true:=by simp [h0]
     by_cases s0:shi = []
     ·have hh:hiT ⟨slo,shi⟩ I0 = I0:=by simp [hiT,h0,s0]
      rw [hh] at hr
      subst s0
      refine N4 hp rfl rfl rfl rfl func75 rfl (by simp [Tryz.f75]) ?_
      simp only [Tryz.f75]
      refine c7 ?_;intro Q10 hQ10
      repeat' (first
       | (replace hQ10:=hQ10;simp [J7,hd,hne,hne1,k1b,k2b,h0b,n0b,hr,P8])
       | refine hQ10 _ _ _ ?_
       | (first | refine dF (id:=3) [0,1,2,3,4,5,6,7,8,9,10,11,12] [] ?_ | refine dF (id:=12) [0,1,2,3,4,5,6,7,8,9,10,11,12,13,14] [] ?_))
      all_goals exact f2
     ·have s0b:(shi == []) = false:=by simp [s0]
      cases bl:Op.bytesLess I0 shi with
      | true =>
       have hh:hiT ⟨slo,shi⟩ I0 = I0:=by simp [hiT,h0,blt,bl]
       rw [hh] at hr
       refine N4 hp rfl rfl rfl rfl func75 rfl (by simp [Tryz.f75]) ?_
       simp only [Tryz.f75]
       refine c7 ?_;intro Q11 hQ11
       repeat' (first
        | (replace hQ11:=hQ11;simp [J7,hd,hne,hne1,k1b,k2b,h0b,s0b,bl,n0b,hr,P8])
        | refine hQ11 _ _ _ ?_
        | (first | refine dF (id:=3) [0,1,2,3,4,5,6,7,8,9,10,11,12] [] ?_ | refine dF (id:=12) [0,1,2,3,4,5,6,7,8,9,10,11,12,13,14] [] ?_))
       all_goals exact f2
      | false =>
       have hh:hiT ⟨slo,shi⟩ I0 = shi:=by simp [hiT,s0,blt,bl]
       rw [hh] at hr
       refine N4 hp rfl rfl rfl rfl func75 rfl (by simp [Tryz.f75]) ?_
       simp only [Tryz.f75]
       refine c7 ?_;intro Q12 hQ12
       repeat' (first
        | (replace hQ12:=hQ12;simp [J7,hd,hne,hne1,k1b,k2b,h0b,s0b,bl,n0b,hr,P8])
        | refine hQ12 _ _ _ ?_
        | (first | refine dF (id:=3) [0,1,2,3,4,5,6,7,8,9,10,11,12] [] ?_ | refine dF (id:=12) [0,1,2,3,4,5,6,7,8,9,10,11,12,13,14] [] ?_))
       all_goals exact f2
def j0t (x:Named):Bool:=I6 x.name && P3 x.r
theorem n0M (x:Named) (hx:(ls x.r).length < 1000000) (h:H):W K 171 (.agg (c8 x)::([]:List AS).map AV.one) h = some (.ret (.one (.bool (!j0t x))) h):=by
 obtain ⟨xn,xr⟩:=x
 have hn:=c0G xn
 have hr:=n0L xr hx
 simp only [c8,List.map_nil]
 have e:j0t ⟨xn,xr⟩ = (I6 xn && P3 xr):=rfl
 rw [e]
 cases h1:I6 xn with
 | false =>
  rw [h1] at hn
  simp only [Bool.false_and,Bool.not_false]
  have hown:A8 S.own 171 = false:=by kernel_rfl
  refine p7 hp (by simp [s7,c5,l0]) (c6 rfl rfl (by kernel_rfl) func171 rfl (by simp [Tryz.f171]) ?_)
  simp only [Tryz.f171]
  refine c7 ?_;intro Q1 hQ1
  repeat' (first
   | (replace hQ1:=hQ1;simp [hn,u6,u5,p9,c5,l5,hown])
   | refine hQ1 _ _ _ ?_)
 | true =>
  rw [h1] at hn
  simp only [Bool.true_and]
  have hown:A8 S.own 171 = false:=by kernel_rfl
  refine p7 hp (by simp [s7,c5,l0]) (c6 rfl rfl (by kernel_rfl) func171 rfl (by simp [Tryz.f171]) ?_)
  simp only [Tryz.f171]
  refine c7 ?_;intro Q2 hQ2
  repeat' (first
   | (replace hQ2:=hQ2;simp [hn,hr,u6,u5,p9,c5,l5,hown])
   | refine hQ2 _ _ _ ?_)
theorem z0F (l:List Named) (hx:∀ x ∈ l,(ls x.r).length < 1000000) (hok:∀ x ∈ l,j0t x = true) (ho:l.length < 1000000) (h:H) :
  W K 212 [.one (sl 2 c8 (some l)),.one (.fn 171 [] [])] h = some (.ret (.one (ii (-1))) h):=by
 have hla:∀ (u:TypeId) (h':H),O7 (sl 2 c8 (some l)) (some (.slice u)) h' = some (one (ii l.length) h'):=fun u h'=>O8 ..
 have hown:A8 S.own 212 = false:=by kernel_rfl
 refine p7 hp (by simp [s7,c5,l0]) (c6 rfl rfl (by kernel_rfl) func212 rfl (by simp [Tryz.f212]) ?_)
 simp only [Tryz.f212]
 refine c7 ?_;intro Q3 hQ3
 repeat' (first
  | (replace hQ3:=hQ3;simp [hla])
  | refine hQ3 _ _ _ ?_)
 refine D5 hp l (fun a r fr hh=>∃ j,fr = ((.one (sl 2 c8 (some l)))::(.one (.fn 171 [] []))::j 2::j 3::(.one (ii 0))::j 5::j 6::(.one (ii l.length))::(.one (ii a.length))::j 9::j 10::j 11::j 12::j 13::j 14::j 15::j 16::j 17::j 18::[])∧True) ?_ ?_ _ _ (Y3 (by simp) (by simp))
 ·rintro a x r fr hh hl ⟨j,rfl,_⟩
  have hxm:x ∈ l:=by rw [hl];simp
  have hil:a.length < l.length:=by rw [hl];simp
  have hi:=I4 (P:=prog) (enc:=c8) (s:=2) (l:=l) (i:=a.length) underlying48 (by simp) (by omega) hil
  have hr:=F3 (enc:=c8) (s:=2) z9 a x r (o:=0) (n:=2) (by omega)
  rw [← hl] at hr
  have hw:IntKind.i64.wrap ((a.length:Int) + 1) = ((a++[x]).length:Int):=by rw [J9];exact D3 (by omega)
  have hx1:=n0M x (hx x hxm)
  rw [hok x hxm] at hx1
  simp only [Nat.add_zero,I8 (z9 _)] at hr
  simp only [List.map_nil,Bool.not_true] at hx1
  generalize hA2:a++[x] = A2 at *
  first | (refine c7 ?_;intro Q4 hQ4) | have hQ4:=oqk
  repeat' (first
   | (replace hQ4:=hQ4;simp [hi,hr,hx1,hw,hil])
   | (refine hQ4 _ _ _ ?_;clear hQ4 Q4;first | simp only [] | simp [hi,hr,hx1,hw,hil,u6,u5,p9,s8,H8,c5,l0,l5,hown] | skip)
   | (refine C5 (by assumption) ?_;(try clear hQ4);first | simp only [] | simp [hi,hr,hx1,hw,hil,u6,u5,p9,s8,H8,c5,l0,l5,hown] | skip)
   | ((fail_if_success replace hQ4:=hQ4);(first | refine c7 ?_ | refine y5 ?_ | refine y3 ?_);intro Q4 hQ4))
  exact Y3 (by simp) trivial
 ·rintro fr hh ⟨j,rfl,_⟩
  first | (refine c7 ?_;intro Q5 hQ5) | have hQ5:=oqk
  repeat' (first
   | (replace hQ5:=hQ5;simp [u6])
   | (refine hQ5 _ _ _ ?_;clear hQ5 Q5;first | simp only [] | simp [u6,u5,p9,s8,H8,c5,l0,l5,hown] | skip)
   | (refine C5 (by assumption) ?_;(try clear hQ5);first | simp only [] | simp [u6,u5,p9,c5,l5,hown] | skip)
   | ((fail_if_success replace hQ5:=hQ5);(first | refine c7 ?_ | refine y5 ?_ | refine y3 ?_);intro Q5 hQ5))
theorem x0g (h:H):W K 212 [.one .nilslc,.one (.fn 171 [] [])] h = some (.ret (.one (ii (-1))) h):=by
 have hown:A8 S.own 212 = false:=by kernel_rfl
 refine p7 hp (by simp [s7,c5,l0]) (c6 rfl rfl (by kernel_rfl) func212 rfl (by simp [Tryz.f212]) ?_)
 simp only [Tryz.f212]
 refine c7 ?_;intro Q6 hQ6
 repeat' (first
  | (replace hQ6:=hQ6;simp [u6])
  | refine hQ6 _ _ _ ?_)
 refine N7 hp 0 (fun i fr hh=>∃ j,fr = ((.one .nilslc)::j 1::j 2::j 3::j 4::j 5::j 6::(.one (ii 0))::(.one (ii 0))::j 9::j 10::j 11::j 12::j 13::j 14::j 15::j 16::j 17::j 18::[])∧True) ?_ ?_ _ _ (Y3 rfl (by simp))
 ·intro i fr hh hi;omega
 ·rintro fr hh ⟨j,rfl,_⟩
  first | (refine c7 ?_;intro Q7 hQ7) | have hQ7:=oqk
  repeat' (first
   | (replace hQ7:=hQ7;simp [u6])
   | (refine hQ7 _ _ _ ?_;clear hQ7 Q7;first | simp only [] | simp [u6,u5,p9,s8,H8,c5,l0,l5,hown] | skip)
   | (refine C5 (by assumption) ?_;(try clear hQ7);first | simp only [] | simp [u6,u5,p9,c5,l5,hown] | skip)
   | ((fail_if_success replace hQ7:=hQ7);(first | refine c7 ?_ | refine y5 ?_ | refine y3 ?_);intro Q7 hQ7))
theorem n0u (o:Option (List Named)) (hx:∀ x ∈ ls o,(ls x.r).length < 1000000) (hok:∀ x ∈ ls o,j0t x = true) (ho:(ls o).length < 1000000) (h:H) :
  W K 170 [.one (sl 2 c8 o),.one (.fn 171 [] [])] h = some (.ret (.one (.bool false)) h):=by
 cases o with
 | none =>
  have hi:=x0g
  simp only [Wm.sl_none]
  have hown:A8 S.own 170 = false:=by kernel_rfl
  refine p7 hp (by simp [s7,c5,l0]) (c6 rfl rfl (by kernel_rfl) func170 rfl (by simp [Tryz.f170]) ?_)
  simp only [Tryz.f170]
  refine c7 ?_;intro Q8 hQ8
  repeat' (first
   | (replace hQ8:=hQ8;simp [hi,u6,u5,p9,c5,l5,hown])
   | refine hQ8 _ _ _ ?_)
 | some l =>
  have hi:=z0F l hx hok ho
  generalize hZ:sl 2 c8 (some l) = Z at *
  have hz:c5 false Z = true:=by rw [← hZ];exact a0f _
  have hown:A8 S.own 170 = false:=by kernel_rfl
  refine p7 hp (by simp [s7,hz,c5,l0]) (c6 rfl rfl (by kernel_rfl) func170 rfl (by simp [Tryz.f170]) ?_)
  simp only [Tryz.f170]
  refine c7 ?_;intro Q9 hQ9
  repeat' (first
   | (replace hQ9:=hQ9;simp [hi,u6,u5,p9,c5,l5,hown])
   | refine hQ9 _ _ _ ?_)
theorem o0M (code:Int) (rows:Option (List Named)) (lo hi:BL) (group gen old to do_:Int) (at_:BL) (state:Option BL) (hok:c0B ⟨code,rows,⟨lo,hi⟩,group,gen,old,to,do_,at_,state⟩ = true) (hx:∀ x ∈ ls rows,(ls x.r).length < 1000000) (h:H) :
  W K 121 [.agg [ii code,sl 2 c8 rows,.str lo,.str hi,ii group,ii gen,ii old,ii to,ii do_,.str at_,bs state]] h = some (.ret (.one (.bool true)) h):=by
 have hsp:=Y0 lo hi
 simp only [c0B,oqd,oqj,oqn] at hok
 obtain ⟨⟨o1,o2,o3,o4⟩,⟨o5,o6⟩,oR,oN,o7,o8,o9⟩:=hok
 have o8':decide (at_.length ≤ 16) = true:=by simp [o8]
 have o9':decide ((ls state).length ≤ 1048576) = true:=by simp [o9]
 have oN':decide ((ls rows).length ≤ 16) = true:=by simp [oN]
 have hcn:=n0u rows hx (fun x hxm=>by have:=oR x hxm;simp only [j0t,oqd];exact this) (by omega)
 have hlr:∀ (u:TypeId) (h':H),O7 (sl 2 c8 rows) (some (.slice u)) h' = some (one (ii (ls rows).length) h'):=fun u h'=>O8 ..
 generalize hZ:sl 2 c8 rows = Z at *
 have hz:c5 false Z = true:=by rw [← hZ];exact a0f _
 have hown:A8 S.own 121 = false:=by kernel_rfl
 refine p7 hp (by simp [s7,hz,c5,l0]) (c6 rfl rfl (by kernel_rfl) func121 rfl (by simp [Tryz.f121]) ?_)
 simp only [Tryz.f121]
 refine c7 ?_;intro Q10 hQ10
 repeat' (first
  | (replace hQ10:=hQ10;simp [hcn,hlr,hsp,F0g,o1,o2,o3,o4,o5,o6,o7,o8,o9,oN,u6,u5,p9,c5,l5,hown])
  | refine hQ10 _ _ _ ?_)
theorem A0o {h0 h:H} {q0:Option Nat} {p:Nat} {l:BL} {kept:List (Nat × Blk)} (w:WS h0 q0 h p l kept):F6 h kept:=by obtain ⟨q,_,_,hk,_⟩:=w;exact hk
theorem z0n {h0 h:H} {q0:Option Nat} {p:Nat} {l:BL} {e:Nat × Blk} {kept:List (Nat × Blk)} (w:WS h0 q0 h p l (e::kept)):WS h0 q0 h p l kept:=by
 obtain ⟨q,w,g,hk,hd⟩:=w
 exact ⟨q,w,g,hk.2,fun x hx=>hd x (by simp [hx])⟩
theorem t0T (code:Int) (rows:Option (List Named)) (lo hi:BL) (group gen old to do_:Int) (at_:BL) (state:Option BL) (hok:c0B ⟨code,rows,⟨lo,hi⟩,group,gen,old,to,do_,at_,state⟩ = true) (hx:∀ x ∈ ls rows,(ls x.r).length < 1000000) (hlen:((ls rows).flatMap I1).length ≤ 1048576) (h:H) :
  W K 76 [.agg [ii code,sl 2 c8 rows,.str lo,.str hi,ii group,ii gen,ii old,ii to,ii do_,.str at_,bs state]] h = some (.ret (.tup [(false,[bs (some (c0Q ⟨code,rows,⟨lo,hi⟩,group,gen,old,to,do_,at_,state⟩))]),(false,[ii 0])]) h):=by
 have hR:=o0M code rows lo hi group gen old to do_ at_ state hok hx
 simp only [c0B,oqd,oqj,H5,oqn] at hok
 obtain ⟨⟨o1,o2,o3,o4⟩,⟨o5,o6⟩,oR,oN,⟨⟨o7,o7'⟩,_⟩,o8,o9⟩:=hok
 have hlo:lo.length ≤ 1048576:=by omega
 have hhi:hi.length ≤ 1048576:=by omega
 have hat:at_.length ≤ 1048576:=by omega
 have o9':(ls state).length ≤ 1048576:=o9
 have hk:=oqk
 have hlr:∀ (u:TypeId) (h':H),O7 (sl 2 c8 rows) (some (.slice u)) h' = some (one (ii (ls rows).length) h'):=fun u h'=>O8 ..
 have hl:(c0Q ⟨code,rows,⟨lo,hi⟩,group,gen,old,to,do_,at_,state⟩).length ≤ 1099511627776:=by
  simp only [c0Q,I9,D7,L7,g9,oqa,oqb];omega
 obtain ⟨Z,hZ⟩:∃ Z,sl 2 c8 rows = Z:=⟨_,rfl⟩
 rw [hZ] at hR hlr ⊢
 have hz:c5 false Z = true:=by rw [← hZ];exact a0f _
 obtain ⟨B0,hB0⟩:∃ B:Blk,B = ⟨0,[11],true,[ii code,Z,.str lo,.str hi,ii group,ii gen,ii old,ii to,ii do_,.str at_,bs state]⟩:=⟨_,rfl⟩
 have ws:=C0m (H.empty.new ⟨0,[11],true,[ii code,Z,.str lo,.str hi,ii group,ii gen,ii old,ii to,ii do_,.str at_,bs state]⟩) [(0,⟨0,[11],true,[ii code,Z,.str lo,.str hi,ii group,ii gen,ii old,ii to,ii do_,.str at_,bs state]⟩)] (by simp [F6]) (by simp)
 simp only [A1,p0F,Nat.zero_add] at ws
 have hown:A8 S.own 76 = false:=by kernel_rfl
 refine p7 hp (by simp [s7,hz,c5,l0]) (c6 rfl rfl (by kernel_rfl) func76 rfl (by simp [Tryz.f76]) ?_)
 simp only [Tryz.f76]
 refine c7 ?_;intro Q1 hQ1
 repeat' (first
  | (replace hQ1:=hQ1;simp [hR,r0P,A5,a0R])
  | refine hQ1 _ _ _ ?_
  | ((with_reducible refine N0 ?_);first
   | (refine B9 (b0f _) (by first | assumption | exact WS.new (by assumption) _ | exact WS.new (WS.new (by assumption) _) _) (by first | (simp only [oqa,oqb,oqc];omega) | exact hl | omega | (simp only [oqa,oqb,oqc,g9] at hl ⊢;omega) | (simp at hl ⊢;omega)) ?_;clear hk;intro h' ws' hk;(try simp only [F6,and_true] at hk);(first | (have hk:=hk;skip) | have hk:=oqk);(try simp [hlr,A5,a0R,hk]))
   | (refine L8 (by first | assumption | omega) (by first | assumption | exact WS.new (by assumption) _ | exact WS.new (WS.new (by assumption) _) _) (by first | (simp only [oqa,oqb,oqc,g9,D7,I9,L7,a0Z];omega) | exact hl | omega | (simp only [oqa,oqb,oqc,g9] at hl ⊢;omega) | (simp at hl ⊢;omega)) (by first | rfl | simp) ?_;clear hk;intro h' ws' hk;(try simp only [F6,and_true,A1] at hk);(first | (have hk:=hk;skip) | have hk:=oqk);(try simp [hz,hlr,hR,r0P,A5,a0R,u6,u5,p9,s8,H8,c5,l0,l5,hown,hk])))
  | (rw [n0p ws' (by first | omega | (simp only [oqa,oqb,oqc,g9,D7,I9,L7,a0Z];omega) | (simp only [oqa,oqb,oqc,g9] at hl ⊢;omega) | (simp at hl ⊢;omega)) (by simp)];simp [hz,hlr,hR,r0P,A5,a0R,u6,u5,p9,s8,H8,c5,l0,l5,hown,hk]))
 obtain ⟨I,hI⟩:∃ I:List Named→List Named→Fr→H→Prop,I = fun a r fr hh=>WS ((H.empty.new ⟨0,[11],true,[ii code,Z,.str lo,.str hi,ii group,ii gen,ii old,ii to,ii do_,.str at_,bs state]⟩).new ⟨0,[1],true,[.nilslc]⟩) none hh 1 (u8 code::u8 (ls rows).length::a.flatMap I1) [(0,⟨0,[11],true,[ii code,Z,.str lo,.str hi,ii group,ii gen,ii old,ii to,ii do_,.str at_,bs state]⟩)]∧∃ j:Nat→AV,fr = (j 0::(.one (.ptr 0 0 0))::j 2::j 3::(.one (.ptr 1 0 0))::j 5::j 6::j 7::j 8::j 9::j 10::j 11::j 12::j 13::j 14::j 15::j 16::j 17::j 18::j 19::j 20::j 21::j 22::(.one Z)::(.one (ii (ls rows).length))::(.one (ii a.length))::j 26::j 27::j 28::j 29::j 30::j 31::j 32::j 33::j 34::j 35::j 36::j 37::j 38::j 39::j 40::j 41::j 42::j 43::j 44::j 45::j 46::j 47::j 48::j 49::j 50::j 51::j 52::j 53::j 54::j 55::j 56::j 57::j 58::j 59::j 60::j 61::j 62::j 63::j 64::j 65::j 66::j 67::j 68::j 69::j 70::j 71::j 72::j 73::j 74::j 75::j 76::[]):=⟨_,rfl⟩
 refine D5 hp (ls rows) I ?_ ?_ _ _ (by rw [hI];exact ⟨by simpa using ws',s9 (by simp)⟩)
 clear ws'
 ·intro a x r fr hh hll hx2
  rw [hI] at hx2
  obtain ⟨ws',j,rfl⟩:=hx2
  have hk:=A0o ws'
  simp only [F6,and_true] at hk
  have hxm:x ∈ ls rows:=by rw [hll];simp
  have hx0:=hx x hxm
  have hxo:=oR x hxm
  have hil:a.length < (ls rows).length:=by rw [hll];simp
  have hrs:=O9 hll
  have hix:=I4 (P:=prog) (enc:=c8) (s:=2) (l:=ls rows) (i:=a.length) underlying48 (by simp) (by omega) hil
  have hso:some (ls rows) = rows:=by rw [hll];exact hrs.symm
  rw [hso,hZ] at hix
  have hrd:=F3 (enc:=c8) (s:=2) z9 a x r (o:=0) (n:=2) (by omega)
  rw [← hll] at hrd
  simp only [Nat.add_zero,I8 (z9 _)] at hrd
  have hw:IntKind.i64.wrap ((a.length:Int) + 1) = (a.length:Int) + 1:=D3 (by omega)
  have hlf:((ls rows).flatMap I1).length = (a.flatMap I1).length + ((I1 x).length + (r.flatMap I1).length):=by rw [hll];simp only [List.flatMap_append,List.flatMap_cons,oqa]
  obtain ⟨xn,xr⟩:=x
  simp only [c8] at hrd
  simp only [I6,oqd,oqj] at hxo
  simp only at hx0
  have hx1:xn.length ≤ 1048576:=by omega
  obtain ⟨A,hA⟩:∃ A,u8 code::u8 (ls rows).length::a.flatMap I1 = A:=⟨_,rfl⟩
  have hAl:A.length = 2 + (a.flatMap I1).length:=by rw [← hA];simp;omega
  have hAe:u8 code::u8 (ls rows).length::(a++[(⟨xn,xr⟩:Named)]).flatMap I1 = A++(D7 xn++g0a xr):=by rw [← hA];simp [I1]
  rw [hA] at ws'
  clear hl
  have hl:A.length + (4 + xn.length + (g0a xr).length) ≤ 1099511627776:=by
   simp only [I1,D7,oqa,g9] at hlf;omega
  first | (refine c7 ?_;intro Q2 hQ2) | have hQ2:=oqk
  repeat' (first
   | (replace hQ2:=hQ2;simp [hix,hrd,hil])
   | (refine hQ2 _ _ _ ?_;clear hQ2 Q2;first | simp only [] | simp [hz,hix,hrd,hil,hw,A5,R9,b0l hx1,u6,u5,p9,s8,H8,c5,l0,l5,hown,hk] | skip)
   | (refine C5 (by assumption) ?_;(try clear hQ2);first | simp only [] | simp [hz,hix,hrd,hil,hw,A5,R9,b0l hx1,u6,u5,p9,s8,H8,c5,l0,l5,hown,hk] | skip)
   | ((fail_if_success replace hQ2:=hQ2);(first | refine c7 ?_ | refine y5 ?_ | refine y3 ?_);intro Q2 hQ2)
   | ((with_reducible refine N0 ?_);first
    | (refine B9 (A0z xr hx0) (by first | assumption | exact WS.new (by assumption) _ | exact WS.new (WS.new (by assumption) _) _) (by first | (simp only [oqa,g9,D7];omega) | exact hl | omega | (simp only [oqa,oqb,oqc,g9] at hl ⊢;omega) | (simp at hl ⊢;omega)) ?_;clear hk;intro h' ws' hk;(try simp only [F6,and_true] at hk);(first | (have hk:=hk;skip) | have hk:=oqk);(try simp [hw]))
    | (refine B9 (m0f xn hx1) (by first | assumption | exact WS.new (by assumption) _ | exact WS.new (WS.new (by assumption) _) _) (by first | (simp only [oqa,g9,D7];omega) | exact hl | omega | (simp only [oqa,oqb,oqc,g9] at hl ⊢;omega) | (simp at hl ⊢;omega)) ?_;clear hk;intro h' ws' hk;(try simp only [F6,and_true] at hk);(first | (have hk:=hk;skip) | have hk:=oqk);(try simp [hk]))
    | (refine L8 (by first | assumption | omega) (by first | assumption | exact WS.new (by assumption) _ | exact WS.new (WS.new (by assumption) _) _) (by first | (simp only [oqa,oqb,oqc,g9,D7,I9,L7,a0Z];omega) | exact hl | omega | (simp only [oqa,oqb,oqc,g9] at hl ⊢;omega) | (simp at hl ⊢;omega)) (by first | rfl | simp) ?_;clear hk;intro h' ws' hk;(try simp only [F6,and_true,A1] at hk);(first | (have hk:=hk;skip) | have hk:=oqk);(try simp [hz,hix,hrd,hil,hw,A5,R9,b0l hx1,u6,u5,p9,s8,H8,c5,l0,l5,hown,hk])))
   | (rw [n0p ws' (by first | omega | (simp only [oqa,oqb,oqc,g9,D7,I9,L7,a0Z];omega) | (simp only [oqa,oqb,oqc,g9] at hl ⊢;omega) | (simp at hl ⊢;omega)) (by simp)];simp [hz,hix,hrd,hil,hw,A5,R9,b0l hx1,u6,u5,p9,s8,H8,c5,l0,l5,hown,hk]))
  rw [hI]
  refine ⟨?_,s9 (by simp)⟩
  rw [hAe]
  simpa [oqh] using z0n ws'
 ·intro fr hh hx2
  rw [hI] at hx2
  obtain ⟨ws',j,rfl⟩:=hx2
  have hk:=A0o ws'
  simp only [F6,and_true] at hk
  have hsp:=v0q lo hi hlo hhi
  simp only [c0Q,oqb,oqa] at hl
  obtain ⟨A,hA⟩:∃ A,(ls rows).flatMap I1 = A:=⟨_,rfl⟩
  rw [hA] at ws' hl
  first | (refine c7 ?_;intro Q3 hQ3) | have hQ3:=oqk
  repeat' (first
   | (replace hQ3:=hQ3;simp [hk])
   | (refine hQ3 _ _ _ ?_;clear hQ3 Q3;first | simp only [] | simp [A5,a0R,u6,u5,p9,s8,H8,c5,l0,l5,hown,hk] | skip)
   | (refine C5 (by assumption) ?_;(try clear hQ3);first | simp only [] | simp [u6,u5,p9,s8,H8,c5,l5,hown] | skip)
   | ((fail_if_success replace hQ3:=hQ3);(first | refine c7 ?_ | refine y5 ?_ | refine y3 ?_);intro Q3 hQ3)
   | ((with_reducible refine N0 ?_);first
    | (refine B9 (b0f _) (by first | assumption | exact WS.new (by assumption) _ | exact WS.new (WS.new (by assumption) _) _) (by first | (simp only [oqa,oqb,oqc,g9,D7,I9,L7];omega) | exact hl | omega | (simp only [oqa,oqb,oqc] at hl ⊢;omega) | (simp at hl ⊢;omega)) ?_;clear hk;intro h' ws' hk;(try simp only [F6,and_true] at hk);(first | (have hk:=hk;skip) | have hk:=oqk);(try simp [A5,a0R,hk]))
    | (refine B9 (v0q lo hi hlo hhi) (by first | assumption | exact WS.new (by assumption) _ | exact WS.new (WS.new (by assumption) _) _) (by first | (simp only [oqa,oqb,oqc,g9,D7,I9,L7];omega) | exact hl | omega | (simp only [oqa,oqb,oqc] at hl ⊢;omega) | (simp at hl ⊢;omega)) ?_;clear hk;intro h' ws' hk;(try simp only [F6,and_true] at hk);(first | (have hk:=hk;skip) | have hk:=oqk);(try simp [A5,a0R,hk]))
    | (refine B9 (k0z _) (by first | assumption | exact WS.new (by assumption) _ | exact WS.new (WS.new (by assumption) _) _) (by first | (simp only [oqa,oqb,oqc,g9,D7,I9,L7];omega) | exact hl | omega | (simp only [oqa,oqb,oqc] at hl ⊢;omega) | (simp at hl ⊢;omega)) ?_;clear hk;intro h' ws' hk;(try simp only [F6,and_true] at hk);(first | (have hk:=hk;skip) | have hk:=oqk);(try simp [A5,hk]))
    | (refine B9 (m0f at_ hat) (by first | assumption | exact WS.new (by assumption) _ | exact WS.new (WS.new (by assumption) _) _) (by first | (simp only [oqa,oqb,oqc,g9,D7,I9,L7];omega) | exact hl | omega | (simp only [oqa,oqb,oqc] at hl ⊢;omega) | (simp at hl ⊢;omega)) ?_;clear hk;intro h' ws' hk;(try simp only [F6,and_true] at hk);(first | (have hk:=hk;skip) | have hk:=oqk);(try simp [hk]))
    | (refine B9 (p0R state o9) (by first | assumption | exact WS.new (by assumption) _ | exact WS.new (WS.new (by assumption) _) _) (by first | (simp only [oqa,oqb,oqc,g9,D7,I9,L7];omega) | exact hl | omega | (simp only [oqa,oqb,oqc] at hl ⊢;omega) | (simp at hl ⊢;omega)) ?_;clear hk;intro h' ws' hk;(try simp only [F6,and_true] at hk);(first | (have hk:=hk;skip) | have hk:=oqk);(try simp [A5]))
    | (refine L8 (by first | assumption | omega) (by first | assumption | exact WS.new (by assumption) _ | exact WS.new (WS.new (by assumption) _) _) (by first | (simp only [oqa,oqb,oqc,g9,D7,I9,L7];omega) | exact hl | omega | (simp only [oqa,oqb,oqc] at hl ⊢;omega) | (simp at hl ⊢;omega)) (by first | rfl | simp) ?_;clear hk;intro h' ws' hk;(try simp only [F6,and_true,A1] at hk);(first | (have hk:=hk;skip) | have hk:=oqk);(try simp [A5,a0R,u6,u5,p9,s8,H8,c5,l0,l5,hown,hk])))
   | (rw [n0p ws' (by first | omega | (simp only [oqa,oqb,oqc,g9,D7,I9,L7];omega) | (simp only [oqa,oqb,oqc] at hl ⊢;omega) | (simp at hl ⊢;omega)) (by simp)];simp [A5]))
  all_goals (simp only [c0Q,hA])
theorem m0v {X F F' Y:List Nat} (h:(X++(F++Y)).Nodup) (h':F'.Nodup) (hd:∀ b ∈ F',b ∈ F ∨ (b ∉ X∧b ∉ Y)):(X++(F'++Y)).Nodup:=by
 rw [List.nodup_append,List.nodup_append] at h ⊢
 obtain ⟨h1,⟨h2,h3,h4⟩,h5⟩:=h
 refine ⟨h1,⟨h',h3,fun a ha b hb e=>?_⟩,fun a ha b hb e=>?_⟩
 ·subst e
  rcases hd a ha with h | h
  ·exact h4 a h a hb rfl
  ·exact h.2 hb
 ·subst e
  rcases oqe.1 hb with hb | hb
  ·rcases hd a hb with h | h
   ·exact h5 a ha a (by simp [h]) rfl
   ·exact h.1 ha
  ·exact h5 a ha a (by simp [hb]) rfl
theorem b0i (s:Nat) (sp:AS) (l1:List Pt) (p:Pt) (l2:List Pt):fpS s sp (l1++p::l2) = (s::((z0 sp).toList++l1.flatMap (·.fp)))++(p.fp++l2.flatMap (·.fp)):=by simp [fpS]
theorem StAt.at {h:H} {s:Nat} {sp:AS} {l1 l2:List Pt} {p:Pt} {last code:Int} (w:StAt h s sp (l1++p::l2) last code):TabAt h p.d p.t p.fp∧p.fp.Nodup∧(∀ b ∈ p.fp,b ≠ s∧z0 sp ≠ some b∧∀ q ∈ l1++l2,b ∉ q.fp):=by
 have hn:=w.nd
 rw [b0i] at hn
 rw [List.nodup_append,List.nodup_append] at hn
 obtain ⟨h1,⟨h2,h3,h4⟩,h5⟩:=hn
 refine ⟨w.tabs p (by simp),h2,fun b hb=>⟨fun e=>h5 s (by simp) b (by simp [hb]) e.symm,fun e=>h5 b (by simp [e]) b (by simp [hb]) rfl,fun q hq hbq=>?_⟩⟩
 rcases oqe.1 hq with hq | hq
 ·exact h5 b (by simp only [oqf,oqe,List.mem_flatMap];exact .inr (.inr ⟨q,hq,hbq⟩)) b (by simp [hb]) rfl
 ·exact h4 b hb b (by simp only [List.mem_flatMap];exact ⟨q,hq,hbq⟩) rfl
theorem StAt.put {h h':H} {s:Nat} {sp:AS} {l1 l2:List Pt} {p p':Pt} {last code:Int} (w:StAt h s sp (l1++p::l2) last code) (hd:p'.d = p.d) (ht:TabAt h' p'.d p'.t p'.fp) (g:Fp h h' p.fp p'.fp) (hn':p'.fp.Nodup) :
  StAt h' s sp (l1++p'::l2) last code∧Fp h h' (fpS s sp (l1++p::l2)) (fpS s sp (l1++p'::l2)):=by
 obtain ⟨a1,a2,a3⟩:=w.at
 have hlt:=w.fp_lt
 have hsame:∀ b ∈ fpS s sp (l1++p::l2),b ∉ p.fp→h'.f b = h.f b:=fun b hb hbp=>g.keep b (hlt b hb) hbp
 have hnd:=w.nd
 have hc:cat Z5 (l1++p'::l2) = cat Z5 (l1++p::l2):=by simp only [a0m,U6,Z5,hd]
 have hll:(l1++p'::l2).length = (l1++p::l2).length:=by simp
 refine ⟨⟨oqp w.lt g.next, ?_, ?_,fun q hq=>?_, ?_⟩,⟨g.next,fun b hb hbn=>g.keep b hb fun hc=>hbn ?_,fun b hb=>?_⟩⟩
 ·rw [hsame s (by simp [fpS]) (fun hs=>(a3 s hs).1 rfl)];exact w.blk
 ·have hsp:=w.spine.keep (h':=h') g.next fun b hb=>hsame b (by simp [fpS,hb]) (fun hs=>(a3 b hs).2.1 hb)
  rcases hsp with ⟨_,e⟩ | ⟨b,v,z,e,ar⟩
  ·simp at e
  ·refine .inr ⟨b,v,z,by rw [hll];exact e, ?_⟩
   unfold Arr at ar ⊢
   rw [hc];exact ar
 ·rcases oqe.1 hq with hq | hq
  ·refine (w.tabs q (by simp [hq])).keep g.next fun b hb=>hsame b ?_ fun hs=>(a3 b hs).2.2 q (by simp [hq]) hb
   simp only [fpS,oqf,oqe,List.mem_flatMap]
   exact .inr (.inr ⟨q,by simp [hq],hb⟩)
  ·rcases oqf.1 hq with rfl | hq
   ·exact ht
   ·refine (w.tabs q (by simp [hq])).keep g.next fun b hb=>hsame b ?_ fun hs=>(a3 b hs).2.2 q (by simp [hq]) hb
    simp only [fpS,oqf,oqe,List.mem_flatMap]
    exact .inr (.inr ⟨q,by simp [hq],hb⟩)
 ·rw [b0i] at hnd ⊢
  refine m0v hnd hn' fun b hb=>?_
  rcases g.own b hb with h | h
  ·exact .inl h
  ·right
   refine ⟨fun hx=>?_,fun hx=>?_⟩
   ·have:=hlt b (by rw [b0i];exact List.mem_append_left _ hx);omega
   ·have:=hlt b (by rw [b0i];simp only [oqe];exact .inr (.inr hx));omega
 ·rw [b0i];simp only [oqe];exact .inr (.inl hc)
 ·rw [b0i] at hb ⊢
  simp only [oqe] at hb ⊢
  rcases hb with hb | hb | hb
  ·exact .inl (.inl hb)
  ·rcases g.own b hb with h | h
   ·exact .inl (.inr (.inl h))
   ·exact .inr h
  ·exact .inl (.inr (.inr hb))
end Go.Proofs.YtiagcnfmgigllaaGreat
