/- A part of a proof over the abstract machine. No conditions. -/
import Derived.Test.YtiagcnfmgigllaaGreatT24
set_option linter.unusedSimpArgs false
set_option linter.unnecessarySimpa false
set_option linter.unusedVariables false
namespace Go.Proofs.YtiagcnfmgigllaaGreat
open Go Go.Ab Wm NumPlain
set_option maxRecDepth 10000
set_option maxHeartbeats 4000000
theorem no_c (c:Int) (h:H):W K 37 [.one (ii c)] h = some (.ret (.agg (encAnswer (noA c))) h):=by
 simp only [noA,encAnswer,Wm.sl_none,bs_none]
 have hown:memL S.own 37 = false:=by kernel_rfl
 refine W_pure hp (by simp [pureV,pureS]) (apart_does rfl rfl (by kernel_rfl) Tryz.func37 rfl (by simp [Tryz.f37]) ?_)
 simp only [Tryz.f37]
 refine hide ?_;intro Q1 hQ1
 repeat' (first
  | (replace hQ1:=hQ1;simp [outV,frzV,frzS,pureS,K_own,hown])
  | refine hQ1 _ _ _ ?_)
theorem ice_get {h h1:H} {b:Nat} {n:BL} {r:Row} (hb:h.next ≤ b) (hlt:b < h1.next) (hf:h1.f b = some ⟨0,[2],true,[.str n,sl 2 encColumn r]⟩) (hn:h.next ≤ h1.next) (hs:∀ c,c < h.next→h1.f c = h.f c) {Q:CR→Prop}
  (hq:Q (.ret (.agg (encAnswer ⟨0,some [⟨n,r⟩],⟨[],[]⟩,0,0,0,0,0,[],none⟩)) h)):IceTo false h Q (.ret (.agg [ii 0,.slc b 0 0 1 2 none,.str [],.str [],ii 0,ii 0,ii 0,ii 0,ii 0,.str [],.nilslc]) h1):=by
 have a:Sl h1 2 encNamed (.slc b 0 0 1 2 none) [⟨n,r⟩]:=.inr ⟨b,0,[],rfl,hlt,true,[],by simp [hf,cat,encNamed]⟩
 obtain ⟨o,_,h2,_,_,h5⟩:=frz_sl (h:=h) len_named pure_named a (fun c hc=>by cases hc;exact hb) 62
 have ho:=h2 (by simp)
 subst ho
 refine ⟨_,iceR_frz (v':=.agg (encAnswer ⟨0,some [⟨n,r⟩],⟨[],[]⟩,0,0,0,0,0,[],none⟩)) (by simp [pureW,pureL,pureS]) ⟨hn,fun c hc=>.inl (hs c hc)⟩ ?_,by rw [back_same hs];exact hq⟩
 simp only [frzV,List.mapM_cons,List.mapM_nil,h5,oqE,oqS,oqP,encAnswer,bs_none]
 simp [frzS,pureS]
theorem pure_ans (a:Answer):pureL false (encAnswer a) = true:=by simp [encAnswer,pureL,pureS]
theorem op_c {h:H} {d pr:Nat} {qr:Option Nat} {l:List Named} {sp:Span} {gen:Int} {fr:Bool} {pc:AS} (o_kind:Int) (o_row:BL) (o_hi:BL) (o_cond_has:Bool) (o_cond_want:Bool) (o_cond_col:BL) (o_cond_v_kind:Int) (o_cond_v_b:Option BL) (o_cond_v_n:Nat) (o_l:Option (List Change)) (o_most:Int) (hd:h.f d = some (tabB sp gen fr (.ptr pr 0 0) pc)) (hdn:d < h.next) (w:Bx h pr 2 encNamed l qr) (ok:TblOk l) (hb:o_cond_v_kind = 1→(ls o_cond_v_b).length ≤ 1099511627776) :
  ∃ h' q',W K 75 [.one (.ptr d 0 0),.agg [ii o_kind,.str o_row,.str o_hi,.bool o_cond_has,.bool o_cond_want,.str o_cond_col,ii o_cond_v_kind,bs o_cond_v_b,.flt o_cond_v_n,sl 6 encChange o_l,ii o_most]] h = some (.ret (.agg (encAnswer (opT sp l ⟨o_kind,o_row,o_hi,⟨o_cond_has,o_cond_want,o_cond_col,⟨o_cond_v_kind,o_cond_v_b,o_cond_v_n⟩⟩,o_l,o_most⟩).1)) h')∧Bx h' pr 2 encNamed (opT sp l ⟨o_kind,o_row,o_hi,⟨o_cond_has,o_cond_want,o_cond_col,⟨o_cond_v_kind,o_cond_v_b,o_cond_v_n⟩⟩,o_l,o_most⟩).2 q'∧Only h h' pr qr q':=by
 obtain ⟨B0,hB0⟩:∃ B:Blk,B = ⟨0,[11],true,[ii o_kind,.str o_row,.str o_hi,.bool o_cond_has,.bool o_cond_want,.str o_cond_col,ii o_cond_v_kind,bs o_cond_v_b,.flt o_cond_v_n,sl 6 encChange o_l,ii o_most]⟩:=⟨_,rfl⟩
 obtain ⟨B1,hB1⟩:∃ B:Blk,B = ⟨0,[11],true,[ii 0,.nilslc,.str [],.str [],ii 0,ii 0,ii 0,ii 0,ii 0,.str [],.nilslc]⟩:=⟨_,rfl⟩
 have hne:¬ d = h.next:=by omega
 have hne1:¬ d = h.next + 1:=by omega
 have hne2:¬ d = h.next + 1 + 1:=by omega
 obtain ⟨slo,shi⟩:=sp
 simp only [tabB] at hd
 obtain ⟨res,hres⟩:∃ res,opT ⟨slo,shi⟩ l ⟨o_kind,o_row,o_hi,⟨o_cond_has,o_cond_want,o_cond_col,⟨o_cond_v_kind,o_cond_v_b,o_cond_v_n⟩⟩,o_l,o_most⟩ = res:=⟨_,rfl⟩
 rw [hres]
 unfold opT at hres
 simp only at hres
 suffices key:∃ r,W K 75 [.one (.ptr d 0 0),.agg [ii o_kind,.str o_row,.str o_hi,.bool o_cond_has,.bool o_cond_want,.str o_cond_col,ii o_cond_v_kind,bs o_cond_v_b,.flt o_cond_v_n,sl 6 encChange o_l,ii o_most]] h = some r∧∃ h' q',r = .ret (.agg (encAnswer res.1)) h'∧Bx h' pr 2 encNamed res.2 q'∧Only h h' pr qr q' by
  obtain ⟨r,e,h',q',rfl,k⟩:=key
  exact ⟨h',q',e,k⟩
 obtain ⟨P,hP⟩:∃ P:CR→Prop,P = fun r=>∃ h' q',r = .ret (.agg (encAnswer res.1)) h'∧Bx h' pr 2 encNamed res.2 q'∧Only h h' pr qr q':=⟨_,rfl⟩
 suffices hh:∃ r,W K 75 [.one (.ptr d 0 0),.agg [ii o_kind,.str o_row,.str o_hi,.bool o_cond_has,.bool o_cond_want,.str o_cond_col,ii o_cond_v_kind,bs o_cond_v_b,.flt o_cond_v_n,sl 6 encChange o_l,ii o_most]] h = some r∧P r by rw [hP] at hh;exact hh
 have fin:∀ (a:Answer) (h1:H) (q':Option Nat),a = res.1→Bx h1 pr 2 encNamed res.2 q'→Only h h1 pr qr q'→IceTo false h P (.ret (.agg (encAnswer a)) h1):=fun a h1 q' ha hbx ho=>by
  refine ice_pure (by simp [pureW,pure_ans]) ?_
  rw [hP];exact ⟨h1,q',by rw [ha],hbx,ho⟩
 by_cases k1:o_kind = 1
 ·rw [if_pos k1] at hres
  subst k1
  have hf1:=tFind_c ((w.new B0).new B1) ok o_row
  cases ht:(tfind l o_row).2 with
  | false =>
   rw [ht] at hres hf1
   simp only [oqF,if_false] at hres
   have hno:=no_c 0
   have fr2:∀ (K1 K2 K3:Blk) (c:Nat),c < h.next→(((((h.new B0).new B1).new K1).set (h.next + 1 + 1) K2).set (h.next + 1) K3).f c = h.f c:=fun K1 K2 K3 c hc=>by
    rw [set_at,if_neg (by omega),set_at,if_neg (by omega),new_f (by simp;omega),new_f (by simp;omega),new_f (by omega)]
   have f2:=fun K1 K2 K3:Blk=>fin (noA 0) (((((h.new B0).new B1).new K1).set (h.next + 1 + 1) K2).set (h.next + 1) K3) qr (by rw [← hres]) (by rw [← hres];exact w.keep (by simp;omega) (fr2 K1 K2 K3 pr w.1) fun c hc=>fr2 K1 K2 K3 c (w.lt hc)) ⟨by simp;omega,fun c hc _ _=>fr2 K1 K2 K3 c hc,.inl rfl⟩
   rw [hB0,hB1] at hf1 f2
   simp only [encAnswer,noA,Wm.sl_none,bs_none] at hno f2
   simp only [encRow] at hf1
   refine W_iceQ hp rfl rfl rfl rfl Tryz.func75 rfl (by simp [Tryz.f75]) ?_
   simp only [Tryz.f75]
   refine hide ?_;intro Q2 hQ2
   repeat' (first
    | (replace hQ2:=hQ2;simp [hd,hne,hne1,hf1,hno])
    | refine hQ2 _ _ _ ?_
    | (first | refine dF (id:=3) [0,1,2,3,4,5,6,7,8,9,10,11,12] [] ?_ | refine dF (id:=12) [0,1,2,3,4,5,6,7,8,9,10,11,12,13,14] [] ?_))
   all_goals exact f2 _ _ _
  | true =>
   rw [ht] at hres hf1
   simp only [if_true] at hres
   simp only [encRow] at hf1
   rw [hB0,hB1] at hf1
   refine W_iceQ hp rfl rfl rfl rfl Tryz.func75 rfl (by simp [Tryz.f75]) ?_
   simp only [Tryz.f75]
   refine hide ?_;intro Q3 hQ3
   repeat' (first
    | (replace hQ3:=hQ3;simp [hd,hne,hne1,hf1,new_set2])
    | refine hQ3 _ _ _ ?_
    | (first | refine dF (id:=3) [0,1,2,3,4,5,6,7,8,9,10,11,12] [] ?_ | refine dF (id:=12) [0,1,2,3,4,5,6,7,8,9,10,11,12,13,14] [] ?_))
   refine ice_get (n:=o_row) (r:=(tfind l o_row).1) (by first | omega | (simp;done) | (simp;omega)) (by first | omega | (simp;done) | (simp;omega)) (by simp) (by first | omega | (simp;done) | (simp;omega)) (fun c hc=>?_) ?_
   ·have g1:¬ c = h.next:=by omega
    have g2:¬ c = h.next + 1:=by omega
    have g3:¬ c = h.next + 1 + 1:=by omega
    have g4:¬ c = h.next + 1 + 1 + 1:=by omega
    simp [new_at,set_at,g1,g2,g3,g4]
   rw [hP,← hres]
   exact ⟨h,qr,rfl,w,only_refl _ _ _⟩
 ·rw [if_neg k1] at hres
  have k1b:(o_kind == 1) = false:=by simp [k1]
  by_cases k2:o_kind = 2
  ·rw [if_pos k2] at hres
   subst k2
   have hd':((h.new B0).new B1).f d = some (tabB ⟨slo,shi⟩ gen fr (.ptr pr 0 0) pc):=by rw [new_f (by simp;omega),new_f (by omega)];exact hd
   obtain ⟨h',q',e,b,o⟩:=mutate_c 2 o_row o_hi o_cond_has o_cond_want o_cond_col o_cond_v_kind o_cond_v_b o_cond_v_n o_l o_most hd' (by simp;omega) ((w.new B0).new B1) ok hb
   have hm1:(mutT l ⟨2,o_row,o_hi,⟨o_cond_has,o_cond_want,o_cond_col,⟨o_cond_v_kind,o_cond_v_b,o_cond_v_n⟩⟩,o_l,o_most⟩) = (mutT l ⟨2,o_row,o_hi,⟨o_cond_has,o_cond_want,o_cond_col,⟨o_cond_v_kind,o_cond_v_b,o_cond_v_n⟩⟩,o_l,o_most⟩):=rfl
   generalize mutT l ⟨2,o_row,o_hi,⟨o_cond_has,o_cond_want,o_cond_col,⟨o_cond_v_kind,o_cond_v_b,o_cond_v_n⟩⟩,o_l,o_most⟩ = M at *
   have on:=o.next
   simp only [new_next] at on
   have hno:=no_c M.2
   have wp:pr ≠ h.next + 1:=by have:=w.1;omega
   have hf1:h'.f (h.next + 1) = some B1:=by rw [o.keep (h.next + 1) (by simp) (Ne.symm wp) (fun e=>by have:=w.lt e;omega)];simp
   have own':q' = qr ∨ ∃ x,q' = some x∧h.next + 1 + 1 ≤ x:=by
    rcases o.own with e | ⟨x,e,hx⟩
    ·exact .inl e
    ·simp at hx;exact .inr ⟨x,e,hx⟩
   have hq1:q' ≠ some (h.next + 1):=fun hc=>by
    rcases own' with e | ⟨x,e,hx⟩
    ·rw [hc] at e;have:=w.lt e.symm;omega
    ·rw [hc] at e;cases e;omega
   have hbx:∀ k:Blk,Bx (h'.set (h.next + 1) k) pr 2 encNamed M.1 q':=fun k=>b.keep (by simp) (by rw [set_at,if_neg wp]) fun c hc=>by rw [set_at,if_neg (fun hcc=>hq1 (by rw [hc,hcc]))]
   have hon:∀ k:Blk,Only h (h'.set (h.next + 1) k) pr qr q':=fun k=>⟨by simp;omega,fun c hc h1 h2=>by rw [set_at,if_neg (by omega),o.keep c (by simp;omega) h1 h2,new_f (by simp;omega),new_f (by omega)],by
    rcases own' with e | ⟨x,e,hx⟩
    ·exact .inl e
    ·exact .inr ⟨x,e,by omega⟩⟩
   have f2:=fun (k:Blk)=>fin (noA M.2) (h'.set (h.next + 1) k) q' (by rw [← hres]) (by rw [← hres];exact hbx k) (hon k)
   rw [hB0,hB1] at e
   rw [hB1] at hf1
   simp only [encAnswer,noA,Wm.sl_none,bs_none] at hno f2
   refine W_iceQ hp rfl rfl rfl rfl Tryz.func75 rfl (by simp [Tryz.f75]) ?_
   simp only [Tryz.f75]
   refine hide ?_;intro Q4 hQ4
   repeat' (first
    | (replace hQ4:=hQ4;simp [e,hno,hf1])
    | refine hQ4 _ _ _ ?_
    | (first | refine dF (id:=3) [0,1,2,3,4,5,6,7,8,9,10,11,12] [] ?_ | refine dF (id:=12) [0,1,2,3,4,5,6,7,8,9,10,11,12,13,14] [] ?_))
   all_goals exact f2 _
  ·rw [if_neg k2] at hres
   have k2b:(o_kind == 2) = false:=by simp [k2]
   have hr:=trange_c ((w.new B0).new B1) ok o_row (hiT ⟨slo,shi⟩ o_hi) o_most
   obtain ⟨rg,hrg⟩:∃ rg,trange l o_row (hiT ⟨slo,shi⟩ o_hi) o_most = rg:=⟨_,rfl⟩
   rw [hrg] at hr hres
   have f2:=fin res.1 ((h.new B0).new (⟨0,[11],true,encAnswer res.1⟩:Blk)) qr rfl (by rw [← hres];exact (w.new _).new _) (only_new (only_new (only_refl _ _ _)))
   rw [hB0] at f2 hr
   rw [hB1] at hr
   clear fin
   by_cases n0:rg.2 = []
   ·rw [if_pos n0] at hres
    rw [n0] at hr
    by_cases h0:o_hi = []
    ·have hh:hiT ⟨slo,shi⟩ o_hi = shi:=by simp [hiT,h0]
     rw [hh] at hr hres
     subst h0
     rw [← hres] at f2
     simp only [encAnswer,bs_none] at f2
     refine W_iceQ hp rfl rfl rfl rfl Tryz.func75 rfl (by simp [Tryz.f75]) ?_
     simp only [Tryz.f75]
     refine hide ?_;intro Q5 hQ5
     repeat' (first
      | (replace hQ5:=hQ5;simp [strOp,hd,hne,hne1,k1b,k2b,hr,new_set1])
      | refine hQ5 _ _ _ ?_
      | (first | refine dF (id:=3) [0,1,2,3,4,5,6,7,8,9,10,11,12] [] ?_ | refine dF (id:=12) [0,1,2,3,4,5,6,7,8,9,10,11,12,13,14] [] ?_))
     all_goals exact f2
    ·have h0b:(o_hi == []) = false:=by simp [h0]
     have h0c:(o_hi != []) = true:=by simp [h0]
     by_cases s0:shi = []
     ·have hh:hiT ⟨slo,shi⟩ o_hi = o_hi:=by simp [hiT,h0,s0]
      rw [hh] at hr hres
      subst s0
      rw [← hres] at f2
      simp only [encAnswer,bs_none] at f2
      refine W_iceQ hp rfl rfl rfl rfl Tryz.func75 rfl (by simp [Tryz.f75]) ?_
      simp only [Tryz.f75]
      refine hide ?_;intro Q6 hQ6
      repeat' (first
       | (replace hQ6:=hQ6;simp [strOp,hd,hne,hne1,k1b,k2b,h0b,hr,new_set1])
       | refine hQ6 _ _ _ ?_
       | (first | refine dF (id:=3) [0,1,2,3,4,5,6,7,8,9,10,11,12] [] ?_ | refine dF (id:=12) [0,1,2,3,4,5,6,7,8,9,10,11,12,13,14] [] ?_))
      all_goals exact f2
     ·have s0b:(shi == []) = false:=by simp [s0]
      cases bl:Op.bytesLess o_hi shi with
      | true =>
       have hh:hiT ⟨slo,shi⟩ o_hi = o_hi:=by simp [hiT,h0,blt,bl]
       rw [hh] at hr hres
       rw [← hres] at f2
       simp only [encAnswer,bs_none] at f2
       refine W_iceQ hp rfl rfl rfl rfl Tryz.func75 rfl (by simp [Tryz.f75]) ?_
       simp only [Tryz.f75]
       refine hide ?_;intro Q7 hQ7
       repeat' (first
        | (replace hQ7:=hQ7;simp [strOp,hd,hne,hne1,k1b,k2b,h0b,s0b,bl,hr,new_set1])
        | refine hQ7 _ _ _ ?_
        | (first | refine dF (id:=3) [0,1,2,3,4,5,6,7,8,9,10,11,12] [] ?_ | refine dF (id:=12) [0,1,2,3,4,5,6,7,8,9,10,11,12,13,14] [] ?_))
       all_goals exact f2
      | false =>
       have hh:hiT ⟨slo,shi⟩ o_hi = shi:=by simp [hiT,s0,blt,bl]
       rw [hh] at hr hres
       rw [← hres] at f2
       simp only [encAnswer,bs_none] at f2
       refine W_iceQ hp rfl rfl rfl rfl Tryz.func75 rfl (by simp [Tryz.f75]) ?_
       simp only [Tryz.f75]
       refine hide ?_;intro Q8 hQ8
       repeat' (first
        | (replace hQ8:=hQ8;simp [strOp,hd,hne,hne1,k1b,k2b,h0b,s0b,bl,hr,new_set1])
        | refine hQ8 _ _ _ ?_
        | (first | refine dF (id:=3) [0,1,2,3,4,5,6,7,8,9,10,11,12] [] ?_ | refine dF (id:=12) [0,1,2,3,4,5,6,7,8,9,10,11,12,13,14] [] ?_))
       all_goals exact f2
   ·rw [if_neg n0] at hres
    have n0b:(rg.2 == []) = false:=by simp [n0]
    have n0c:(rg.2 != []) = true:=by simp [n0]
    rw [← hres] at f2
    simp only [encAnswer,bs_none] at f2
    by_cases h0:o_hi = []
    ·have hh:hiT ⟨slo,shi⟩ o_hi = shi:=by simp [hiT,h0]
     rw [hh] at hr
     subst h0
     refine W_iceQ hp rfl rfl rfl rfl Tryz.func75 rfl (by simp [Tryz.f75]) ?_
     simp only [Tryz.f75]
     refine hide ?_;intro Q9 hQ9
     repeat' (first
      | (replace hQ9:=hQ9;simp [strOp,hd,hne,hne1,k1b,k2b,n0b,hr,new_set1])
      | refine hQ9 _ _ _ ?_
      | (first | refine dF (id:=3) [0,1,2,3,4,5,6,7,8,9,10,11,12] [] ?_ | refine dF (id:=12) [0,1,2,3,4,5,6,7,8,9,10,11,12,13,14] [] ?_))
     all_goals exact f2
    ·have h0b:(o_hi == []) = false:=by simp [h0]
     have h0c:(o_hi != []) = true:=by simp [h0]
     by_cases s0:shi = []
     ·have hh:hiT ⟨slo,shi⟩ o_hi = o_hi:=by simp [hiT,h0,s0]
      rw [hh] at hr
      subst s0
      refine W_iceQ hp rfl rfl rfl rfl Tryz.func75 rfl (by simp [Tryz.f75]) ?_
      simp only [Tryz.f75]
      refine hide ?_;intro Q10 hQ10
      repeat' (first
       | (replace hQ10:=hQ10;simp [strOp,hd,hne,hne1,k1b,k2b,h0b,n0b,hr,new_set1])
       | refine hQ10 _ _ _ ?_
       | (first | refine dF (id:=3) [0,1,2,3,4,5,6,7,8,9,10,11,12] [] ?_ | refine dF (id:=12) [0,1,2,3,4,5,6,7,8,9,10,11,12,13,14] [] ?_))
      all_goals exact f2
     ·have s0b:(shi == []) = false:=by simp [s0]
      cases bl:Op.bytesLess o_hi shi with
      | true =>
       have hh:hiT ⟨slo,shi⟩ o_hi = o_hi:=by simp [hiT,h0,blt,bl]
       rw [hh] at hr
       refine W_iceQ hp rfl rfl rfl rfl Tryz.func75 rfl (by simp [Tryz.f75]) ?_
       simp only [Tryz.f75]
       refine hide ?_;intro Q11 hQ11
       repeat' (first
        | (replace hQ11:=hQ11;simp [strOp,hd,hne,hne1,k1b,k2b,h0b,s0b,bl,n0b,hr,new_set1])
        | refine hQ11 _ _ _ ?_
        | (first | refine dF (id:=3) [0,1,2,3,4,5,6,7,8,9,10,11,12] [] ?_ | refine dF (id:=12) [0,1,2,3,4,5,6,7,8,9,10,11,12,13,14] [] ?_))
       all_goals exact f2
      | false =>
       have hh:hiT ⟨slo,shi⟩ o_hi = shi:=by simp [hiT,s0,blt,bl]
       rw [hh] at hr
       refine W_iceQ hp rfl rfl rfl rfl Tryz.func75 rfl (by simp [Tryz.f75]) ?_
       simp only [Tryz.f75]
       refine hide ?_;intro Q12 hQ12
       repeat' (first
        | (replace hQ12:=hQ12;simp [strOp,hd,hne,hne1,k1b,k2b,h0b,s0b,bl,n0b,hr,new_set1])
        | refine hQ12 _ _ _ ?_
        | (first | refine dF (id:=3) [0,1,2,3,4,5,6,7,8,9,10,11,12] [] ?_ | refine dF (id:=12) [0,1,2,3,4,5,6,7,8,9,10,11,12,13,14] [] ?_))
       all_goals exact f2
def namedB (x:Named):Bool:=nameOk x.name && rowB x.r
theorem rightAns1_c (x:Named) (hx:(ls x.r).length < 1000000) (h:H):W K 171 (.agg (encNamed x)::([]:List AS).map AV.one) h = some (.ret (.one (.bool (!namedB x))) h):=by
 obtain ⟨xn,xr⟩:=x
 have hn:=name_c xn
 have hr:=rright_c xr hx
 simp only [encNamed,List.map_nil]
 have e:namedB ⟨xn,xr⟩ = (nameOk xn && rowB xr):=rfl
 rw [e]
 cases h1:nameOk xn with
 | false =>
  rw [h1] at hn
  simp only [Bool.false_and,Bool.not_false]
  have hown:memL S.own 171 = false:=by kernel_rfl
  refine W_pure hp (by simp [pureV,pureS,pureL]) (apart_does rfl rfl (by kernel_rfl) Tryz.func171 rfl (by simp [Tryz.f171]) ?_)
  simp only [Tryz.f171]
  refine hide ?_;intro Q1 hQ1
  repeat' (first
   | (replace hQ1:=hQ1;simp [hn,outV,frzV,frzS,pureS,K_own,hown])
   | refine hQ1 _ _ _ ?_)
 | true =>
  rw [h1] at hn
  simp only [Bool.true_and]
  have hown:memL S.own 171 = false:=by kernel_rfl
  refine W_pure hp (by simp [pureV,pureS,pureL]) (apart_does rfl rfl (by kernel_rfl) Tryz.func171 rfl (by simp [Tryz.f171]) ?_)
  simp only [Tryz.f171]
  refine hide ?_;intro Q2 hQ2
  repeat' (first
   | (replace hQ2:=hQ2;simp [hn,hr,outV,frzV,frzS,pureS,K_own,hown])
   | refine hQ2 _ _ _ ?_)
theorem idxNm_c (l:List Named) (hx:∀ x ∈ l,(ls x.r).length < 1000000) (hok:∀ x ∈ l,namedB x = true) (ho:l.length < 1000000) (h:H) :
  W K 212 [.one (sl 2 encNamed (some l)),.one (.fn 171 [] [])] h = some (.ret (.one (ii (-1))) h):=by
 have hla:∀ (u:TypeId) (h':H),lenA (sl 2 encNamed (some l)) (some (.slice u)) h' = some (one (ii l.length) h'):=fun u h'=>lenA_sl ..
 have hown:memL S.own 212 = false:=by kernel_rfl
 refine W_pure hp (by simp [pureV,pureS,pureL]) (apart_does rfl rfl (by kernel_rfl) Tryz.func212 rfl (by simp [Tryz.f212]) ?_)
 simp only [Tryz.f212]
 refine hide ?_;intro Q3 hQ3
 repeat' (first
  | (replace hQ3:=hQ3;simp [hla])
  | refine hQ3 _ _ _ ?_)
 refine does_each hp l (fun a r fr hh=>∃ j,fr = ((.one (sl 2 encNamed (some l)))::(.one (.fn 171 [] []))::j 2::j 3::(.one (ii 0))::j 5::j 6::(.one (ii l.length))::(.one (ii a.length))::j 9::j 10::j 11::j 12::j 13::j 14::j 15::j 16::j 17::j 18::[])∧True) ?_ ?_ _ _ (ex_get (by simp) (by simp))
 ·rintro a x r fr hh hl ⟨j,rfl,_⟩
  have hxm:x ∈ l:=by rw [hl];simp
  have hil:a.length < l.length:=by rw [hl];simp
  have hi:=index_sl (P:=Tryz.prog) (enc:=encNamed) (s:=2) (l:=l) (i:=a.length) Tryz.underlying48 (by simp) (by omega) hil
  have hr:=sub_flat (enc:=encNamed) (s:=2) len_named a x r (o:=0) (n:=2) (by omega)
  rw [← hl] at hr
  have hw:IntKind.i64.wrap ((a.length:Int) + 1) = ((a++[x]).length:Int):=by rw [step_len];exact step_wrap (by omega)
  have hx1:=rightAns1_c x (hx x hxm)
  rw [hok x hxm] at hx1
  simp only [Nat.add_zero,sub_all (len_named _)] at hr
  simp only [List.map_nil,Bool.not_true] at hx1
  generalize hA2:a++[x] = A2 at *
  first | (refine hide ?_;intro Q4 hQ4) | have hQ4:=True.intro
  repeat' (first
   | (replace hQ4:=hQ4;simp [hi,hr,hx1,hw,hil])
   | (refine hQ4 _ _ _ ?_;clear hQ4 Q4;first | simp only [] | simp [hi,hr,hx1,hw,hil,outV,frzV,frzS,frzS_pure,frzP,pureS,pureL,K_own,hown] | skip)
   | (refine hadQ (by assumption) ?_;(try clear hQ4);first | simp only [] | simp [hi,hr,hx1,hw,hil,outV,frzV,frzS,frzS_pure,frzP,pureS,pureL,K_own,hown] | skip)
   | ((fail_if_success replace hQ4:=hQ4);(first | refine hide ?_ | refine hideS ?_ | refine hideB ?_);intro Q4 hQ4))
  exact ex_get (by simp) trivial
 ·rintro fr hh ⟨j,rfl,_⟩
  first | (refine hide ?_;intro Q5 hQ5) | have hQ5:=True.intro
  repeat' (first
   | (replace hQ5:=hQ5;simp [outV])
   | (refine hQ5 _ _ _ ?_;clear hQ5 Q5;first | simp only [] | simp [outV,frzV,frzS,frzS_pure,frzP,pureS,pureL,K_own,hown] | skip)
   | (refine hadQ (by assumption) ?_;(try clear hQ5);first | simp only [] | simp [outV,frzV,frzS,pureS,K_own,hown] | skip)
   | ((fail_if_success replace hQ5:=hQ5);(first | refine hide ?_ | refine hideS ?_ | refine hideB ?_);intro Q5 hQ5))
theorem idxNm0_c (h:H):W K 212 [.one .nilslc,.one (.fn 171 [] [])] h = some (.ret (.one (ii (-1))) h):=by
 have hown:memL S.own 212 = false:=by kernel_rfl
 refine W_pure hp (by simp [pureV,pureS,pureL]) (apart_does rfl rfl (by kernel_rfl) Tryz.func212 rfl (by simp [Tryz.f212]) ?_)
 simp only [Tryz.f212]
 refine hide ?_;intro Q6 hQ6
 repeat' (first
  | (replace hQ6:=hQ6;simp [outV])
  | refine hQ6 _ _ _ ?_)
 refine does_count hp 0 (fun i fr hh=>∃ j,fr = ((.one .nilslc)::j 1::j 2::j 3::j 4::j 5::j 6::(.one (ii 0))::(.one (ii 0))::j 9::j 10::j 11::j 12::j 13::j 14::j 15::j 16::j 17::j 18::[])∧True) ?_ ?_ _ _ (ex_get rfl (by simp))
 ·intro i fr hh hi;omega
 ·rintro fr hh ⟨j,rfl,_⟩
  first | (refine hide ?_;intro Q7 hQ7) | have hQ7:=True.intro
  repeat' (first
   | (replace hQ7:=hQ7;simp [outV])
   | (refine hQ7 _ _ _ ?_;clear hQ7 Q7;first | simp only [] | simp [outV,frzV,frzS,frzS_pure,frzP,pureS,pureL,K_own,hown] | skip)
   | (refine hadQ (by assumption) ?_;(try clear hQ7);first | simp only [] | simp [outV,frzV,frzS,pureS,K_own,hown] | skip)
   | ((fail_if_success replace hQ7:=hQ7);(first | refine hide ?_ | refine hideS ?_ | refine hideB ?_);intro Q7 hQ7))
theorem containsNm_c (o:Option (List Named)) (hx:∀ x ∈ ls o,(ls x.r).length < 1000000) (hok:∀ x ∈ ls o,namedB x = true) (ho:(ls o).length < 1000000) (h:H) :
  W K 170 [.one (sl 2 encNamed o),.one (.fn 171 [] [])] h = some (.ret (.one (.bool false)) h):=by
 cases o with
 | none =>
  have hi:=idxNm0_c
  simp only [Wm.sl_none]
  have hown:memL S.own 170 = false:=by kernel_rfl
  refine W_pure hp (by simp [pureV,pureS,pureL]) (apart_does rfl rfl (by kernel_rfl) Tryz.func170 rfl (by simp [Tryz.f170]) ?_)
  simp only [Tryz.f170]
  refine hide ?_;intro Q8 hQ8
  repeat' (first
   | (replace hQ8:=hQ8;simp [hi,outV,frzV,frzS,pureS,K_own,hown])
   | refine hQ8 _ _ _ ?_)
 | some l =>
  have hi:=idxNm_c l hx hok ho
  generalize hZ:sl 2 encNamed (some l) = Z at *
  have hz:pureS false Z = true:=by rw [← hZ];exact pure_nameds _
  have hown:memL S.own 170 = false:=by kernel_rfl
  refine W_pure hp (by simp [pureV,hz,pureS,pureL]) (apart_does rfl rfl (by kernel_rfl) Tryz.func170 rfl (by simp [Tryz.f170]) ?_)
  simp only [Tryz.f170]
  refine hide ?_;intro Q9 hQ9
  repeat' (first
   | (replace hQ9:=hQ9;simp [hi,outV,frzV,frzS,pureS,K_own,hown])
   | refine hQ9 _ _ _ ?_)
theorem rightAnsR_c (code:Int) (rows:Option (List Named)) (lo hi:BL) (group gen old to do_:Int) (at_:BL) (state:Option BL) (hok:ansOk ⟨code,rows,⟨lo,hi⟩,group,gen,old,to,do_,at_,state⟩ = true) (hx:∀ x ∈ ls rows,(ls x.r).length < 1000000) (h:H) :
  W K 121 [.agg [ii code,sl 2 encNamed rows,.str lo,.str hi,ii group,ii gen,ii old,ii to,ii do_,.str at_,bs state]] h = some (.ret (.one (.bool true)) h):=by
 have hsp:=spanRight_c lo hi
 simp only [ansOk,Bool.and_eq_true,decide_eq_true_eq,List.all_eq_true] at hok
 obtain ⟨⟨o1,o2,o3,o4⟩,⟨o5,o6⟩,oR,oN,o7,o8,o9⟩:=hok
 have o8':decide (at_.length ≤ 16) = true:=by simp [o8]
 have o9':decide ((ls state).length ≤ 1048576) = true:=by simp [o9]
 have oN':decide ((ls rows).length ≤ 16) = true:=by simp [oN]
 have hcn:=containsNm_c rows hx (fun x hxm=>by have:=oR x hxm;simp only [namedB,Bool.and_eq_true];exact this) (by omega)
 have hlr:∀ (u:TypeId) (h':H),lenA (sl 2 encNamed rows) (some (.slice u)) h' = some (one (ii (ls rows).length) h'):=fun u h'=>lenA_sl ..
 generalize hZ:sl 2 encNamed rows = Z at *
 have hz:pureS false Z = true:=by rw [← hZ];exact pure_nameds _
 have hown:memL S.own 121 = false:=by kernel_rfl
 refine W_pure hp (by simp [pureV,hz,pureS,pureL]) (apart_does rfl rfl (by kernel_rfl) Tryz.func121 rfl (by simp [Tryz.f121]) ?_)
 simp only [Tryz.f121]
 refine hide ?_;intro Q10 hQ10
 repeat' (first
  | (replace hQ10:=hQ10;simp [hcn,hlr,hsp,in_c,o1,o2,o3,o4,o5,o6,o7,o8,o9,oN,outV,frzV,frzS,pureS,K_own,hown])
  | refine hQ10 _ _ _ ?_)
theorem ws_kp {h0 h:H} {q0:Option Nat} {p:Nat} {l:BL} {kept:List (Nat × Blk)} (w:WS h0 q0 h p l kept):keptP h kept:=by obtain ⟨q,_,_,hk,_⟩:=w;exact hk
theorem ws_tail {h0 h:H} {q0:Option Nat} {p:Nat} {l:BL} {e:Nat × Blk} {kept:List (Nat × Blk)} (w:WS h0 q0 h p l (e::kept)):WS h0 q0 h p l kept:=by
 obtain ⟨q,w,g,hk,hd⟩:=w
 exact ⟨q,w,g,hk.2,fun x hx=>hd x (by simp [hx])⟩
theorem encAnsR_c (code:Int) (rows:Option (List Named)) (lo hi:BL) (group gen old to do_:Int) (at_:BL) (state:Option BL) (hok:ansOk ⟨code,rows,⟨lo,hi⟩,group,gen,old,to,do_,at_,state⟩ = true) (hx:∀ x ∈ ls rows,(ls x.r).length < 1000000) (hlen:((ls rows).flatMap namedBy).length ≤ 1048576) (h:H) :
  W K 76 [.agg [ii code,sl 2 encNamed rows,.str lo,.str hi,ii group,ii gen,ii old,ii to,ii do_,.str at_,bs state]] h = some (.ret (.tup [(false,[bs (some (ansB ⟨code,rows,⟨lo,hi⟩,group,gen,old,to,do_,at_,state⟩))]),(false,[ii 0])]) h):=by
 have hR:=rightAnsR_c code rows lo hi group gen old to do_ at_ state hok hx
 simp only [ansOk,Bool.and_eq_true,decide_eq_true_eq,spanOk,List.all_eq_true] at hok
 obtain ⟨⟨o1,o2,o3,o4⟩,⟨o5,o6⟩,oR,oN,⟨⟨o7,o7'⟩,_⟩,o8,o9⟩:=hok
 have hlo:lo.length ≤ 1048576:=by omega
 have hhi:hi.length ≤ 1048576:=by omega
 have hat:at_.length ≤ 1048576:=by omega
 have o9':(ls state).length ≤ 1048576:=o9
 have hk:=True.intro
 have hlr:∀ (u:TypeId) (h':H),lenA (sl 2 encNamed rows) (some (.slice u)) h' = some (one (ii (ls rows).length) h'):=fun u h'=>lenA_sl ..
 have hl:(ansB ⟨code,rows,⟨lo,hi⟩,group,gen,old,to,do_,at_,state⟩).length ≤ 1099511627776:=by
  simp only [ansB,encSpn,textB,num4,be_length,List.length_append,List.length_cons];omega
 obtain ⟨Z,hZ⟩:∃ Z,sl 2 encNamed rows = Z:=⟨_,rfl⟩
 rw [hZ] at hR hlr ⊢
 have hz:pureS false Z = true:=by rw [← hZ];exact pure_nameds _
 obtain ⟨B0,hB0⟩:∃ B:Blk,B = ⟨0,[11],true,[ii code,Z,.str lo,.str hi,ii group,ii gen,ii old,ii to,ii do_,.str at_,bs state]⟩:=⟨_,rfl⟩
 have ws:=ws_new (H.empty.new ⟨0,[11],true,[ii code,Z,.str lo,.str hi,ii group,ii gen,ii old,ii to,ii do_,.str at_,bs state]⟩) [(0,⟨0,[11],true,[ii code,Z,.str lo,.str hi,ii group,ii gen,ii old,ii to,ii do_,.str at_,bs state]⟩)] (by simp [keptP]) (by simp)
 simp only [new_next,empty_next,Nat.zero_add] at ws
 have hown:memL S.own 76 = false:=by kernel_rfl
 refine W_pure hp (by simp [pureV,hz,pureS,pureL]) (apart_does rfl rfl (by kernel_rfl) Tryz.func76 rfl (by simp [Tryz.f76]) ?_)
 simp only [Tryz.f76]
 refine hide ?_;intro Q1 hQ1
 repeat' (first
  | (replace hQ1:=hQ1;simp [hR,new_c,convA,wrapB])
  | refine hQ1 _ _ _ ?_
  | ((with_reducible refine call_id ?_);first
   | (refine call_writes (byte_w _) (by first | assumption | exact WS.new (by assumption) _ | exact WS.new (WS.new (by assumption) _) _) (by first | (simp only [List.length_append,List.length_cons,List.length_nil];omega) | exact hl | omega | (simp only [List.length_append,List.length_cons,List.length_nil,be_length] at hl ⊢;omega) | (simp at hl ⊢;omega)) ?_;clear hk;intro h' ws' hk;(try simp only [keptP,and_true] at hk);(first | (have hk:=hk;skip) | have hk:=True.intro);(try simp [hlr,convA,wrapB,hk]))
   | (refine call_text (by first | assumption | omega) (by first | assumption | exact WS.new (by assumption) _ | exact WS.new (WS.new (by assumption) _) _) (by first | (simp only [List.length_append,List.length_cons,List.length_nil,be_length,textB,encSpn,num4,num8];omega) | exact hl | omega | (simp only [List.length_append,List.length_cons,List.length_nil,be_length] at hl ⊢;omega) | (simp at hl ⊢;omega)) (by first | rfl | simp) ?_;clear hk;intro h' ws' hk;(try simp only [keptP,and_true,new_next] at hk);(first | (have hk:=hk;skip) | have hk:=True.intro);(try simp [hz,hlr,hR,new_c,convA,wrapB,outV,frzV,frzS,frzS_pure,frzP,pureS,pureL,K_own,hown,hk])))
  | (rw [done_ws ws' (by first | omega | (simp only [List.length_append,List.length_cons,List.length_nil,be_length,textB,encSpn,num4,num8];omega) | (simp only [List.length_append,List.length_cons,List.length_nil,be_length] at hl ⊢;omega) | (simp at hl ⊢;omega)) (by simp)];simp [hz,hlr,hR,new_c,convA,wrapB,outV,frzV,frzS,frzS_pure,frzP,pureS,pureL,K_own,hown,hk]))
 obtain ⟨I,hI⟩:∃ I:List Named→List Named→Fr→H→Prop,I = fun a r fr hh=>WS ((H.empty.new ⟨0,[11],true,[ii code,Z,.str lo,.str hi,ii group,ii gen,ii old,ii to,ii do_,.str at_,bs state]⟩).new ⟨0,[1],true,[.nilslc]⟩) none hh 1 (u8 code::u8 (ls rows).length::a.flatMap namedBy) [(0,⟨0,[11],true,[ii code,Z,.str lo,.str hi,ii group,ii gen,ii old,ii to,ii do_,.str at_,bs state]⟩)]∧∃ j:Nat→AV,fr = (j 0::(.one (.ptr 0 0 0))::j 2::j 3::(.one (.ptr 1 0 0))::j 5::j 6::j 7::j 8::j 9::j 10::j 11::j 12::j 13::j 14::j 15::j 16::j 17::j 18::j 19::j 20::j 21::j 22::(.one Z)::(.one (ii (ls rows).length))::(.one (ii a.length))::j 26::j 27::j 28::j 29::j 30::j 31::j 32::j 33::j 34::j 35::j 36::j 37::j 38::j 39::j 40::j 41::j 42::j 43::j 44::j 45::j 46::j 47::j 48::j 49::j 50::j 51::j 52::j 53::j 54::j 55::j 56::j 57::j 58::j 59::j 60::j 61::j 62::j 63::j 64::j 65::j 66::j 67::j 68::j 69::j 70::j 71::j 72::j 73::j 74::j 75::j 76::[]):=⟨_,rfl⟩
 refine does_each hp (ls rows) I ?_ ?_ _ _ (by rw [hI];exact ⟨by simpa using ws',ex_get' (by simp)⟩)
 clear ws'
 ·intro a x r fr hh hll hx2
  rw [hI] at hx2
  obtain ⟨ws',j,rfl⟩:=hx2
  have hk:=ws_kp ws'
  simp only [keptP,and_true] at hk
  have hxm:x ∈ ls rows:=by rw [hll];simp
  have hx0:=hx x hxm
  have hxo:=oR x hxm
  have hil:a.length < (ls rows).length:=by rw [hll];simp
  have hrs:=ls_cons hll
  have hix:=index_sl (P:=Tryz.prog) (enc:=encNamed) (s:=2) (l:=ls rows) (i:=a.length) Tryz.underlying48 (by simp) (by omega) hil
  have hso:some (ls rows) = rows:=by rw [hll];exact hrs.symm
  rw [hso,hZ] at hix
  have hrd:=sub_flat (enc:=encNamed) (s:=2) len_named a x r (o:=0) (n:=2) (by omega)
  rw [← hll] at hrd
  simp only [Nat.add_zero,sub_all (len_named _)] at hrd
  have hw:IntKind.i64.wrap ((a.length:Int) + 1) = (a.length:Int) + 1:=step_wrap (by omega)
  have hlf:((ls rows).flatMap namedBy).length = (a.flatMap namedBy).length + ((namedBy x).length + (r.flatMap namedBy).length):=by rw [hll];simp only [List.flatMap_append,List.flatMap_cons,List.length_append]
  obtain ⟨xn,xr⟩:=x
  simp only [encNamed] at hrd
  simp only [nameOk,Bool.and_eq_true,decide_eq_true_eq] at hxo
  simp only at hx0
  have hx1:xn.length ≤ 1048576:=by omega
  obtain ⟨A,hA⟩:∃ A,u8 code::u8 (ls rows).length::a.flatMap namedBy = A:=⟨_,rfl⟩
  have hAl:A.length = 2 + (a.flatMap namedBy).length:=by rw [← hA];simp;omega
  have hAe:u8 code::u8 (ls rows).length::(a++[(⟨xn,xr⟩:Named)]).flatMap namedBy = A++(textB xn++rowBy xr):=by rw [← hA];simp [namedBy]
  rw [hA] at ws'
  clear hl
  have hl:A.length + (4 + xn.length + (rowBy xr).length) ≤ 1099511627776:=by
   simp only [namedBy,textB,List.length_append,be_length] at hlf;omega
  first | (refine hide ?_;intro Q2 hQ2) | have hQ2:=True.intro
  repeat' (first
   | (replace hQ2:=hQ2;simp [hix,hrd,hil])
   | (refine hQ2 _ _ _ ?_;clear hQ2 Q2;first | simp only [] | simp [hz,hix,hrd,hil,hw,convA,isByteT,le_lim hx1,outV,frzV,frzS,frzS_pure,frzP,pureS,pureL,K_own,hown,hk] | skip)
   | (refine hadQ (by assumption) ?_;(try clear hQ2);first | simp only [] | simp [hz,hix,hrd,hil,hw,convA,isByteT,le_lim hx1,outV,frzV,frzS,frzS_pure,frzP,pureS,pureL,K_own,hown,hk] | skip)
   | ((fail_if_success replace hQ2:=hQ2);(first | refine hide ?_ | refine hideS ?_ | refine hideB ?_);intro Q2 hQ2)
   | ((with_reducible refine call_id ?_);first
    | (refine call_writes (row_w xr hx0) (by first | assumption | exact WS.new (by assumption) _ | exact WS.new (WS.new (by assumption) _) _) (by first | (simp only [List.length_append,be_length,textB];omega) | exact hl | omega | (simp only [List.length_append,List.length_cons,List.length_nil,be_length] at hl ⊢;omega) | (simp at hl ⊢;omega)) ?_;clear hk;intro h' ws' hk;(try simp only [keptP,and_true] at hk);(first | (have hk:=hk;skip) | have hk:=True.intro);(try simp [hw]))
    | (refine call_writes (strtext_w xn hx1) (by first | assumption | exact WS.new (by assumption) _ | exact WS.new (WS.new (by assumption) _) _) (by first | (simp only [List.length_append,be_length,textB];omega) | exact hl | omega | (simp only [List.length_append,List.length_cons,List.length_nil,be_length] at hl ⊢;omega) | (simp at hl ⊢;omega)) ?_;clear hk;intro h' ws' hk;(try simp only [keptP,and_true] at hk);(first | (have hk:=hk;skip) | have hk:=True.intro);(try simp [hk]))
    | (refine call_text (by first | assumption | omega) (by first | assumption | exact WS.new (by assumption) _ | exact WS.new (WS.new (by assumption) _) _) (by first | (simp only [List.length_append,List.length_cons,List.length_nil,be_length,textB,encSpn,num4,num8];omega) | exact hl | omega | (simp only [List.length_append,List.length_cons,List.length_nil,be_length] at hl ⊢;omega) | (simp at hl ⊢;omega)) (by first | rfl | simp) ?_;clear hk;intro h' ws' hk;(try simp only [keptP,and_true,new_next] at hk);(first | (have hk:=hk;skip) | have hk:=True.intro);(try simp [hz,hix,hrd,hil,hw,convA,isByteT,le_lim hx1,outV,frzV,frzS,frzS_pure,frzP,pureS,pureL,K_own,hown,hk])))
   | (rw [done_ws ws' (by first | omega | (simp only [List.length_append,List.length_cons,List.length_nil,be_length,textB,encSpn,num4,num8];omega) | (simp only [List.length_append,List.length_cons,List.length_nil,be_length] at hl ⊢;omega) | (simp at hl ⊢;omega)) (by simp)];simp [hz,hix,hrd,hil,hw,convA,isByteT,le_lim hx1,outV,frzV,frzS,frzS_pure,frzP,pureS,pureL,K_own,hown,hk]))
  rw [hI]
  refine ⟨?_,ex_get' (by simp)⟩
  rw [hAe]
  simpa [List.append_assoc] using ws_tail ws'
 ·intro fr hh hx2
  rw [hI] at hx2
  obtain ⟨ws',j,rfl⟩:=hx2
  have hk:=ws_kp ws'
  simp only [keptP,and_true] at hk
  have hsp:=spn_w lo hi hlo hhi
  simp only [ansB,List.length_cons,List.length_append] at hl
  obtain ⟨A,hA⟩:∃ A,(ls rows).flatMap namedBy = A:=⟨_,rfl⟩
  rw [hA] at ws' hl
  first | (refine hide ?_;intro Q3 hQ3) | have hQ3:=True.intro
  repeat' (first
   | (replace hQ3:=hQ3;simp [hk])
   | (refine hQ3 _ _ _ ?_;clear hQ3 Q3;first | simp only [] | simp [convA,wrapB,outV,frzV,frzS,frzS_pure,frzP,pureS,pureL,K_own,hown,hk] | skip)
   | (refine hadQ (by assumption) ?_;(try clear hQ3);first | simp only [] | simp [outV,frzV,frzS,frzS_pure,frzP,pureS,K_own,hown] | skip)
   | ((fail_if_success replace hQ3:=hQ3);(first | refine hide ?_ | refine hideS ?_ | refine hideB ?_);intro Q3 hQ3)
   | ((with_reducible refine call_id ?_);first
    | (refine call_writes (byte_w _) (by first | assumption | exact WS.new (by assumption) _ | exact WS.new (WS.new (by assumption) _) _) (by first | (simp only [List.length_append,List.length_cons,List.length_nil,be_length,textB,encSpn,num4];omega) | exact hl | omega | (simp only [List.length_append,List.length_cons,List.length_nil] at hl ⊢;omega) | (simp at hl ⊢;omega)) ?_;clear hk;intro h' ws' hk;(try simp only [keptP,and_true] at hk);(first | (have hk:=hk;skip) | have hk:=True.intro);(try simp [convA,wrapB,hk]))
    | (refine call_writes (spn_w lo hi hlo hhi) (by first | assumption | exact WS.new (by assumption) _ | exact WS.new (WS.new (by assumption) _) _) (by first | (simp only [List.length_append,List.length_cons,List.length_nil,be_length,textB,encSpn,num4];omega) | exact hl | omega | (simp only [List.length_append,List.length_cons,List.length_nil] at hl ⊢;omega) | (simp at hl ⊢;omega)) ?_;clear hk;intro h' ws' hk;(try simp only [keptP,and_true] at hk);(first | (have hk:=hk;skip) | have hk:=True.intro);(try simp [convA,wrapB,hk]))
    | (refine call_writes (numI_w _) (by first | assumption | exact WS.new (by assumption) _ | exact WS.new (WS.new (by assumption) _) _) (by first | (simp only [List.length_append,List.length_cons,List.length_nil,be_length,textB,encSpn,num4];omega) | exact hl | omega | (simp only [List.length_append,List.length_cons,List.length_nil] at hl ⊢;omega) | (simp at hl ⊢;omega)) ?_;clear hk;intro h' ws' hk;(try simp only [keptP,and_true] at hk);(first | (have hk:=hk;skip) | have hk:=True.intro);(try simp [convA,hk]))
    | (refine call_writes (strtext_w at_ hat) (by first | assumption | exact WS.new (by assumption) _ | exact WS.new (WS.new (by assumption) _) _) (by first | (simp only [List.length_append,List.length_cons,List.length_nil,be_length,textB,encSpn,num4];omega) | exact hl | omega | (simp only [List.length_append,List.length_cons,List.length_nil] at hl ⊢;omega) | (simp at hl ⊢;omega)) ?_;clear hk;intro h' ws' hk;(try simp only [keptP,and_true] at hk);(first | (have hk:=hk;skip) | have hk:=True.intro);(try simp [hk]))
    | (refine call_writes (text_w state o9) (by first | assumption | exact WS.new (by assumption) _ | exact WS.new (WS.new (by assumption) _) _) (by first | (simp only [List.length_append,List.length_cons,List.length_nil,be_length,textB,encSpn,num4];omega) | exact hl | omega | (simp only [List.length_append,List.length_cons,List.length_nil] at hl ⊢;omega) | (simp at hl ⊢;omega)) ?_;clear hk;intro h' ws' hk;(try simp only [keptP,and_true] at hk);(first | (have hk:=hk;skip) | have hk:=True.intro);(try simp [convA]))
    | (refine call_text (by first | assumption | omega) (by first | assumption | exact WS.new (by assumption) _ | exact WS.new (WS.new (by assumption) _) _) (by first | (simp only [List.length_append,List.length_cons,List.length_nil,be_length,textB,encSpn,num4];omega) | exact hl | omega | (simp only [List.length_append,List.length_cons,List.length_nil] at hl ⊢;omega) | (simp at hl ⊢;omega)) (by first | rfl | simp) ?_;clear hk;intro h' ws' hk;(try simp only [keptP,and_true,new_next] at hk);(first | (have hk:=hk;skip) | have hk:=True.intro);(try simp [convA,wrapB,outV,frzV,frzS,frzS_pure,frzP,pureS,pureL,K_own,hown,hk])))
   | (rw [done_ws ws' (by first | omega | (simp only [List.length_append,List.length_cons,List.length_nil,be_length,textB,encSpn,num4];omega) | (simp only [List.length_append,List.length_cons,List.length_nil] at hl ⊢;omega) | (simp at hl ⊢;omega)) (by simp)];simp [convA]))
  all_goals (simp only [ansB,hA])
theorem nodup_put {X F F' Y:List Nat} (h:(X++(F++Y)).Nodup) (h':F'.Nodup) (hd:∀ b ∈ F',b ∈ F ∨ (b ∉ X∧b ∉ Y)):(X++(F'++Y)).Nodup:=by
 rw [List.nodup_append,List.nodup_append] at h ⊢
 obtain ⟨h1,⟨h2,h3,h4⟩,h5⟩:=h
 refine ⟨h1,⟨h',h3,fun a ha b hb e=>?_⟩,fun a ha b hb e=>?_⟩
 ·subst e
  rcases hd a ha with h | h
  ·exact h4 a h a hb rfl
  ·exact h.2 hb
 ·subst e
  rcases List.mem_append.1 hb with hb | hb
  ·rcases hd a hb with h | h
   ·exact h5 a ha a (by simp [h]) rfl
   ·exact h.1 ha
  ·exact h5 a ha a (by simp [hb]) rfl
theorem fps_split (s:Nat) (sp:AS) (l1:List Pt) (p:Pt) (l2:List Pt):fpS s sp (l1++p::l2) = (s::((ownB sp).toList++l1.flatMap (·.fp)))++(p.fp++l2.flatMap (·.fp)):=by simp [fpS]
theorem StAt.at {h:H} {s:Nat} {sp:AS} {l1 l2:List Pt} {p:Pt} {last code:Int} (w:StAt h s sp (l1++p::l2) last code):TabAt h p.d p.t p.fp∧p.fp.Nodup∧(∀ b ∈ p.fp,b ≠ s∧ownB sp ≠ some b∧∀ q ∈ l1++l2,b ∉ q.fp):=by
 have hn:=w.nd
 rw [fps_split] at hn
 rw [List.nodup_append,List.nodup_append] at hn
 obtain ⟨h1,⟨h2,h3,h4⟩,h5⟩:=hn
 refine ⟨w.tabs p (by simp),h2,fun b hb=>⟨fun e=>h5 s (by simp) b (by simp [hb]) e.symm,fun e=>h5 b (by simp [e]) b (by simp [hb]) rfl,fun q hq hbq=>?_⟩⟩
 rcases List.mem_append.1 hq with hq | hq
 ·exact h5 b (by simp only [List.mem_cons,List.mem_append,List.mem_flatMap];exact .inr (.inr ⟨q,hq,hbq⟩)) b (by simp [hb]) rfl
 ·exact h4 b hb b (by simp only [List.mem_flatMap];exact ⟨q,hq,hbq⟩) rfl
theorem StAt.put {h h':H} {s:Nat} {sp:AS} {l1 l2:List Pt} {p p':Pt} {last code:Int} (w:StAt h s sp (l1++p::l2) last code) (hd:p'.d = p.d) (ht:TabAt h' p'.d p'.t p'.fp) (g:Fp h h' p.fp p'.fp) (hn':p'.fp.Nodup) :
  StAt h' s sp (l1++p'::l2) last code∧Fp h h' (fpS s sp (l1++p::l2)) (fpS s sp (l1++p'::l2)):=by
 obtain ⟨a1,a2,a3⟩:=w.at
 have hlt:=w.fp_lt
 have hsame:∀ b ∈ fpS s sp (l1++p::l2),b ∉ p.fp→h'.f b = h.f b:=fun b hb hbp=>g.keep b (hlt b hb) hbp
 have hnd:=w.nd
 have hc:cat encPt (l1++p'::l2) = cat encPt (l1++p::l2):=by simp only [cat_app,cat_cons,encPt,hd]
 have hll:(l1++p'::l2).length = (l1++p::l2).length:=by simp
 refine ⟨⟨Nat.lt_of_lt_of_le w.lt g.next, ?_, ?_,fun q hq=>?_, ?_⟩,⟨g.next,fun b hb hbn=>g.keep b hb fun hc=>hbn ?_,fun b hb=>?_⟩⟩
 ·rw [hsame s (by simp [fpS]) (fun hs=>(a3 s hs).1 rfl)];exact w.blk
 ·have hsp:=w.spine.keep (h':=h') g.next fun b hb=>hsame b (by simp [fpS,hb]) (fun hs=>(a3 b hs).2.1 hb)
  rcases hsp with ⟨_,e⟩ | ⟨b,v,z,e,ar⟩
  ·simp at e
  ·refine .inr ⟨b,v,z,by rw [hll];exact e, ?_⟩
   unfold Arr at ar ⊢
   rw [hc];exact ar
 ·rcases List.mem_append.1 hq with hq | hq
  ·refine (w.tabs q (by simp [hq])).keep g.next fun b hb=>hsame b ?_ fun hs=>(a3 b hs).2.2 q (by simp [hq]) hb
   simp only [fpS,List.mem_cons,List.mem_append,List.mem_flatMap]
   exact .inr (.inr ⟨q,by simp [hq],hb⟩)
  ·rcases List.mem_cons.1 hq with rfl | hq
   ·exact ht
   ·refine (w.tabs q (by simp [hq])).keep g.next fun b hb=>hsame b ?_ fun hs=>(a3 b hs).2.2 q (by simp [hq]) hb
    simp only [fpS,List.mem_cons,List.mem_append,List.mem_flatMap]
    exact .inr (.inr ⟨q,by simp [hq],hb⟩)
 ·rw [fps_split] at hnd ⊢
  refine nodup_put hnd hn' fun b hb=>?_
  rcases g.own b hb with h | h
  ·exact .inl h
  ·right
   refine ⟨fun hx=>?_,fun hx=>?_⟩
   ·have:=hlt b (by rw [fps_split];exact List.mem_append_left _ hx);omega
   ·have:=hlt b (by rw [fps_split];simp only [List.mem_append];exact .inr (.inr hx));omega
 ·rw [fps_split];simp only [List.mem_append];exact .inr (.inl hc)
 ·rw [fps_split] at hb ⊢
  simp only [List.mem_append] at hb ⊢
  rcases hb with hb | hb | hb
  ·exact .inl (.inl hb)
  ·rcases g.own b hb with h | h
   ·exact .inl (.inr (.inl h))
   ·exact .inr h
  ·exact .inl (.inr (.inr hb))
end Go.Proofs.YtiagcnfmgigllaaGreat
