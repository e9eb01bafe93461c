/- A part of a proof over the abstract machine. No conditions. -/
import Derived.Test.YtiagcnfmgigllaaGreatT43
import Derived.Test.YtiagcnfmgigllaaGreatC15t
set_option linter.unusedSimpArgs false
set_option linter.unnecessarySimpa false
set_option linter.unusedVariables false
namespace Go.Proofs.YtiagcnfmgigllaaGreat
open Go Go.Ab Wm NumPlain
set_option maxRecDepth 10000
set_option maxHeartbeats 4000000
theorem H0e (n:Int) (h:H):A6 Tryz.prog 5 47 (.int .u8 n) h = some (.val (.one (.int .i64 (IntKind.i64.wrap n))) h):=by simp [A6]
theorem D0Z (n:Int) (h:H):A6 Tryz.prog 5 3 (.int .u8 n) h = some (.val (.one (.int .i64 (IntKind.i64.wrap n))) h):=by simp [A6]
theorem D0p (n:Int) (h:H):A6 Tryz.prog 138 3 (.int .u32 n) h = some (.val (.one (.int .i64 (IntKind.i64.wrap n))) h):=by simp [A6]
theorem n0W (code:Int) (rows:List Named) (lo hi:BL) (group gen old to do_:Int) (at_:BL) (state:Option BL) (hok:a0T ⟨code,some rows,⟨lo,hi⟩,group,gen,old,to,do_,at_,state⟩ = true) (hx:∀ x ∈ rows,(ls x.r).length < 1000000) :
  Fun K 121 [.agg [ii code,sl 2 c8 (some rows),.str lo,.str hi,ii group,ii gen,ii old,ii to,ii do_,.str at_,bs state]] (fun h=>.ret (.one (.bool true)) h):=by
 have hsp:=W9 lo hi
 simp only [a0T,Bool.and_eq_true,decide_eq_true_eq,List.all_eq_true] at hok
 obtain ⟨⟨o1,o2,o3,o4⟩,⟨o5,o6⟩,oR,oN,o7,o8,o9⟩:=hok
 have o8':decide (at_.length ≤ 16) = true:=by simp [o8]
 have o9':decide ((ls state).length ≤ 1048576) = true:=by simp [o9]
 simp only [I6] at oR oN
 have oN':decide (rows.length ≤ 16) = true:=by simp [oN]
 have hcn:=g0T (some rows) hx (fun x hxm=>by have:=oR x hxm;simp only [i0G,Bool.and_eq_true];exact this) (by simp;omega)
 have hlr:∀ (u:TypeId) (h':H),P6 (sl 2 c8 (some rows)) (some (.slice u)) h' = some (one (ii rows.length) h'):=fun u h'=>S8 ..
 generalize hZ:sl 2 c8 (some rows) = Z at *
 have hz:c5 false Z = true:=by rw [← hZ];exact a0Y _
 have hown:A8 S.own 121 = false:=by kernel_rfl
 refine ⟨by simp [p7,hz,c5,j9],fun hh=>c6 rfl rfl (by kernel_rfl) Tryz.func121 rfl (by simp [Tryz.f121]) ?_⟩
 simp only [Tryz.f121]
 refine hide ?_;intro Q1 hQ1
 repeat' (first
  | (replace hQ1:=hQ1;simp [hcn,hlr,hsp,B0h,o1,o2,o3,o4,o5,o6,o7,o8,o9,oN,t7,p9,p6,c5,p0,hown])
  | refine hQ1 _ _ _ ?_)
theorem q0x {h:H} {s:AS} {l:List Named} (a:Sl h 2 c8 s l) (hs:s ≠ .nilslc):K4 h 64 s = some (sl 2 c8 (some l)):=by
 rcases a with ⟨e,_⟩ | ⟨b,v,z,rfl,ar⟩
 ·exact absurd e hs
 have hr:=O7 (l:=[]) A7 ar
 simp only [List.length_nil,Nat.zero_mul] at hr
 have hm:(cat c8 l).mapM (K4 h 63) = some (cat c8 l):=d0p (n:=62) (a0F (st:=false) l fun x _=>a0J x) (fun a ha=>by
  obtain ⟨x,_,hx⟩:=List.mem_flatMap.1 ha
  simp only [c8,List.mem_cons,List.not_mem_nil,or_false] at hx
  rcases hx with rfl | rfl
  ·simp
  ·cases x.r <;> simp [sl])
 simp only [K4,hr,hm,oqE,oqS,sl]
theorem o0E {h:H} {s:AS} {l:List Named} (a:Sl h 2 c8 s l) (hs:s = .nilslc ∨ l ≠ []) (code:Int) (lo hi:BL) (group gen old to do_:Int) (at_:BL) (state:Option BL) (hok:a0T ⟨code,nz l,⟨lo,hi⟩,group,gen,old,to,do_,at_,state⟩ = true) (hx:∀ x ∈ l,(ls x.r).length < 1000000) :
  W K 121 [.agg [ii code,s,.str lo,.str hi,ii group,ii gen,ii old,ii to,ii do_,.str at_,bs state]] h = some (.ret (.one (.bool true)) h):=by
 by_cases hz:s = .nilslc
 ·subst hz
  have hl:l = []:=by
   rcases a with ⟨_,e⟩ | ⟨b,v,z,e,_⟩
   ·exact e
   ·cases e
  subst hl
  exact j0b code none lo hi group gen old to do_ at_ state hok (by simp) h
 ·have hl:l ≠ []:=by
   rcases hs with e | e
   ·exact absurd e hz
   ·exact e
  rw [f0l hl] at hok
  refine (n0W code l lo hi group gen old to do_ at_ state hok hx).view hp ?_
  have hv:=q0x a hz
  have hns:c5 false s = false:=by
   rcases a with ⟨e,_⟩ | ⟨b,v,z,rfl,_⟩
   ·exact absurd e hz
   ·rfl
  unfold a0U
  rw [if_neg (by simp [p7,j9,hns])]
  have hb:K4 h 64 (bs state) = some (bs state):=c0w (f0k _) (by cases state <;> simp [B7,O9]) (by cases state <;> simp [B7,O9])
  simp only [List.mapM_cons,List.mapM_nil,b0R,hv,hb,oqE,oqS,oqP]
  simp [K4,c5]
structure AnsRd (A:Answer):Prop where
 ok:a0T A = true
 rd:∀ x ∈ ls A.rows,RowRd x.r∧rowCopy x.r = x.r
theorem t0J {A:Answer} (a:AnsRd A):a0T (l0g A) = true:=by
 have h:=a.ok
 have hr:((ls A.rows).map L9).all (fun x=>J4 x.name && S1 x.r) = (ls A.rows).all fun x=>J4 x.name && S1 x.r:=by
  rw [List.all_map]
  congr 1
  funext x
  simp only [Function.comp,L9,o0x]
 unfold a0T l0g at *
 simp only [b0G,List.length_map,hr,d0K,I6] at h ⊢
 exact h
theorem t0l {h:H} {q:Nat} {A:Answer} {rest:BL} (a:AnsRd A) (hq:q < h.next) (hf:h.f q = some (rdB (some (b0j A++rest)))) (hroom:(b0j A++rest).length ≤ 1099511627776) :
  ∃ r,W K 118 [.one (.ptr q 0 0)] h = some r∧∃ h' s,r = .ret (.agg [ii A.code,s,.str A.span.lo,.str A.span.hi,ii A.group,ii A.gen,ii A.old,ii A.to,ii A.do_,.str A.at_,bs (some (ls A.state))]) h' ∧
   Sl h' 2 c8 s ((ls A.rows).map L9)∧(s = .nilslc ∨ (ls A.rows).map L9 ≠ [])∧(∀ b,u4 s = some b→h.next ≤ b)∧h'.f q = some (rdB (some rest))∧h.next ≤ h'.next∧∀ b,b < h.next→b ≠ q→h'.f b = h.f b:=by
 have hN:=t0J a
 obtain ⟨hok,hrd⟩:=a
 obtain ⟨code,rows,⟨lo,hi⟩,group,gen,old,to,do_,at_,state⟩:=A
 simp only [l0g] at hN
 simp only [b0j,List.cons_append,List.append_assoc] at hf hroom ⊢
 have hok2:=hok
 simp only [a0T,Bool.and_eq_true,decide_eq_true_eq,g0Y,List.all_eq_true] at hok
 obtain ⟨⟨o1,o2,o3,o4⟩,⟨o5,o6⟩,oR,oN,o7,o8,o9⟩:=hok
 obtain ⟨cN,rfl⟩:∃ n:Nat,code = n:=⟨code.toNat,by omega⟩
 obtain ⟨gN,rfl⟩:∃ n:Nat,group = n:=⟨group.toNat,by omega⟩
 obtain ⟨tN,rfl⟩:∃ n:Nat,to = n:=⟨to.toNat,by omega⟩
 obtain ⟨dN,rfl⟩:∃ n:Nat,do_ = n:=⟨do_.toNat,by omega⟩
 obtain ⟨L,hL⟩:∃ L,ls rows = L:=⟨_,rfl⟩
 rw [hL] at hf hroom hN oR oN hrd ⊢
 obtain ⟨T1,hT1⟩:∃ T,D5 (ls state)++rest = T:=⟨_,rfl⟩
 obtain ⟨T2,hT2⟩:∃ T,O3 gen++(O3 old++(D5 at_++T1)) = T:=⟨_,rfl⟩
 rw [hT1,hT2] at hf hroom
 have hqn:¬ q = h.next:=by omega
 obtain ⟨g1,e1,n1,r1,s1⟩:=U5 d0R (h:=h.new P7) (q:=q) (by simp;omega) (by rw [p8 hqn];exact hf) hroom (Y9 _ _)
 rw [c0f (by omega)] at e1
 simp only [A0] at n1 s1
 have hroom1:=hroom
 simp only [List.length_cons] at hroom1
 have z1:g1.f h.next = some P7:=by rw [s1 _ (by omega) (Ne.symm hqn)];simp
 obtain ⟨BD,hBD⟩:∃ F:AS→BL→BL→Blk,F = fun s lo hi=>⟨0,[11],true,[ii cN,s,.str lo,.str hi,ii 0,ii 0,ii 0,ii 0,ii 0,.str [],.nilslc]⟩:=⟨_,rfl⟩
 obtain ⟨g2,e2,n2,r2,s2⟩:=U5 d0R (h:=g1.new (BD .nilslc [] [])) (q:=q) (by simp;omega) (by rw [p8 (by omega)];exact r1) (by simp only [List.length_cons];omega) (Y9 _ _)
 rw [c0f (by omega)] at e2
 simp only [A0] at n2 s2
 have z2:g2.f h.next = some P7:=by rw [s2 _ (by omega) (Ne.symm hqn),p8 (by omega)];exact z1
 have d2:g2.f g1.next = some (BD .nilslc [] []):=by rw [s2 _ (by omega) (by omega)];simp
 have hwc:IntKind.i64.wrap (cN:Int) = cN:=wrap_i64 (by omega) (by omega)
 have fr2:∀ b,b < h.next→b ≠ q→g2.f b = h.f b:=fun b hb hbq=>by rw [s2 b (by omega) hbq,p8 (by omega),s1 b (by omega) hbq,p8 (by omega)]
 obtain ⟨P,hP⟩:∃ P:CR→Prop,P = fun r=>∃ h' s,r = .ret (.agg [ii cN,s,.str lo,.str hi,ii gN,ii gen,ii old,ii tN,ii dN,.str at_,bs (some (ls state))]) h'∧Sl h' 2 c8 s (L.map L9)∧(s = .nilslc ∨ L.map L9 ≠ [])∧(∀ b,u4 s = some b→h.next ≤ b)∧h'.f q = some (rdB (some rest))∧h.next ≤ h'.next∧∀ b,b < h.next→b ≠ q→h'.f b = h.f b:=⟨_,rfl⟩
 suffices hh:∃ r,W K 118 [.one (.ptr q 0 0)] h = some r∧P r by rw [hP] at hh;exact hh
 have hBD0:BD .nilslc [] [] = ⟨0,[11],true,[ii cN,.nilslc,.str [],.str [],ii 0,ii 0,ii 0,ii 0,ii 0,.str [],.nilslc]⟩:=by rw [hBD]
 rw [hBD0] at e2
 refine J6 hp rfl rfl rfl Tryz.func118 rfl (by simp [Tryz.f118]) ?_
 simp only [Tryz.f118]
 refine hide ?_;intro Q2 hQ2
 repeat' (first
  | (replace hQ2:=hQ2;simp [e1,H0e,hwc,e2])
  | refine hQ2 _ _ _ ?_)
 refine F5 hp L (fun a r fr hh=>(g1.next < hh.next∧(∀ b,b < h.next→b ≠ q→hh.f b = h.f b)∧hh.f q = some (rdB (some (r.flatMap I8++(J9 ⟨lo,hi⟩++u8 gN::u8 tN::u8 dN::T2))))∧hh.f h.next = some P7∧∃ s1,hh.f g1.next = some (BD s1 [] [])∧Sl hh 2 c8 s1 (a.map L9)∧(s1 = .nilslc ∨ a ≠ [])∧∀ b,u4 s1 = some b→g1.next < b)∧∃ j:Nat→AV,fr = ((.one (.ptr q 0 0))::j 1::(.one (.ptr h.next 0 0))::(.one (.ptr g1.next 0 0))::(.one (.int .u8 r.length))::j 5::j 6::j 7::j 8::j 9::j 10::j 11::j 12::j 13::j 14::j 15::j 16::j 17::j 18::j 19::j 20::j 21::j 22::j 23::j 24::j 25::j 26::j 27::j 28::j 29::j 30::j 31::j 32::j 33::j 34::j 35::j 36::j 37::j 38::j 39::j 40::j 41::j 42::j 43::j 44::j 45::j 46::j 47::j 48::j 49::j 50::j 51::j 52::j 53::j 54::j 55::j 56::j 57::j 58::j 59::j 60::j 61::j 62::j 63::j 64::[])) ?_ ?_ _ _ ?_
 rotate_left 2
 ·exact ⟨⟨by omega,fr2,r2,z2,.nilslc,d2,.inl ⟨rfl,rfl⟩,.inl rfl,by simp [u4]⟩,s9 (by simp)⟩
 ·rintro a x r fr hh hll ⟨⟨i1,i2,i3,i4,s1,i5,i6,i7,i8⟩,j,rfl⟩
  have hxm:x ∈ L:=by rw [hll];simp
  have hnm:=(oR x hxm)
  obtain ⟨hrr,hrc⟩:=hrd x hxm
  have hlr:r.length < 16∧a.length < 16:=by rw [hll,List.length_append,List.length_cons] at oN;omega
  obtain ⟨xn,xr⟩:=x
  simp only at hnm hrr hrc
  obtain ⟨M,hM⟩:∃ M,r.flatMap I8++(J9 ⟨lo,hi⟩++u8 gN::u8 tN::u8 dN::T2) = M:=⟨_,rfl⟩
  have hbytes:((⟨xn,xr⟩:Named)::r).flatMap I8++(J9 ⟨lo,hi⟩++u8 gN::u8 tN::u8 dN::T2) = D5 xn++(d0t (ls xr)++M):=by rw [← hM];simp [I8,g0c,hrc]
  rw [hbytes] at i3
  rw [hM]
  have i3l:(D5 xn++(d0t (ls xr)++M)).length ≤ 1099511627776:=by
   rw [← hbytes]
   have hfl:(L.flatMap I8).length = (a.flatMap I8).length + (((⟨xn,xr⟩:Named)::r).flatMap I8).length:=by rw [hll,List.flatMap_append,List.length_append]
   simp only [List.length_append,List.length_cons] at hroom1 ⊢
   omega
  have hx16:xn.length ≤ 16:=a0m hnm.1
  obtain ⟨m1,f1,v1,w1,y1⟩:=U5 (i0B 16 (by omega)) (h:=hh) (q:=q) (by omega) i3 i3l (a0K hx16 (by omega) _)
  have hr1:(d0t (ls xr)++M).length ≤ 1099511627776:=by rw [List.length_append] at i3l;omega
  obtain ⟨_,f2,m3,rfl,v3,w3,y3⟩:=s0x (h:=m1.new ⟨0,[2],true,[.str xn,.nilslc]⟩) (q:=q) hrr (by simp;omega) (by rw [p8 (by omega)];exact w1) hr1
  simp only [A0] at v3 y3
  have hx':L9 ⟨xn,xr⟩ = ⟨xn,c0A xr⟩:=rfl
  have hmap:(a++[(⟨xn,xr⟩:Named)]).map L9 = a.map L9++[⟨xn,c0A xr⟩]:=by simp [L9]
  obtain ⟨NR,hNR⟩:∃ NR,c0A xr = NR:=⟨_,rfl⟩
  rw [hNR] at f2 hx' hmap
  have hfr:∀ b,b < hh.next→b ≠ q→m3.f b = hh.f b:=fun b hb hbq=>by rw [y3 b (by omega) hbq,p8 (by omega),y1 b hb hbq]
  have fd:m3.f m1.next = some ⟨0,[2],true,[.str xn,.nilslc]⟩:=by rw [y3 _ (by omega) (by omega)];simp
  have hsq:∀ b,u4 s1 = some b→b < hh.next∧b ≠ q∧g1.next < b∧b ≠ m1.next:=fun b hb=>by have:=i8 b hb;have:=i6.lt hb;omega
  have w23:m3.f g1.next = some (BD s1 [] []):=by rw [hfr _ i1 (by omega)];exact i5
  have w35:Sl ((m3.set m1.next ⟨0,[2],true,[.str xn,sl 2 d9 NR]⟩).new ⟨0,[2],true,c8 ⟨xn,NR⟩⟩) 2 c8 s1 (a.map L9):=i6.keep (by simp;omega) fun b hb=>by
   obtain ⟨q1,q2,q3,q4⟩:=hsq b hb
   rw [p8 (by simp;omega),p4,if_neg q4,hfr b q1 q2]
  obtain ⟨s5,h5,e5,⟨b5,v5,z5,hs5,ar5⟩,k1,k2,k3⟩:=P0 (P:=Tryz.prog) (t:=48) Tryz.underlying48 (by simp) (by simp) Tryz.bytes83 (by omega) A7 (a:=.slc m3.next 0 0 1 2 none) (m:=[⟨xn,NR⟩]) w35 rfl (by simp [C3,cat,c8,sub]) (by simp) (by simp only [List.length_map,List.length_cons,List.length_nil,Nat.zero_add,L4];omega)
  simp only [A0,c0j] at k1 k2 k3
  have hs0:u4 s1 ≠ some g1.next:=fun e=>by have:=hsq _ e;omega
  have hsr:u4 s1 ≠ some q:=fun e=>(hsq _ e).2.1 rfl
  have hsz:u4 s1 ≠ some h.next:=fun e=>by have:=hsq _ e;omega
  have f5:h5.f g1.next = some (BD s1 [] []):=by rw [k2 _ (by omega) hs0,p8 (by simp;omega),p4,if_neg (by omega)];exact w23
  have hs50:u4 s5 ≠ some g1.next:=fun e=>by
   rcases k3 _ e with e | e
   ·exact hs0 e
   ·omega
  have e1':W K 164 [.one (.ptr q 0 0),.one (.int .i64 16)] hh = some (.ret (.one (bs (some xn))) m1):=f1
  have hd1:decide ((0:Int) < (r.length:Int) + 1) = true:=by rw [decide_eq_true_eq];omega
  have hd2:(0:Int) < (r.length:Int) + 1:=by omega
  have hdec:IntKind.u8.wrap (r.length:Int) = r.length:=j0A (by omega) (by omega)
  have fin:(g1.next < (h5.set g1.next (BD s5 [] [])).next∧(∀ b,b < h.next→b ≠ q→(h5.set g1.next (BD s5 [] [])).f b = h.f b)∧(h5.set g1.next (BD s5 [] [])).f q = some (rdB (some M))∧(h5.set g1.next (BD s5 [] [])).f h.next = some P7∧∃ s1,(h5.set g1.next (BD s5 [] [])).f g1.next = some (BD s1 [] [])∧Sl (h5.set g1.next (BD s5 [] [])) 2 c8 s1 ((a++[(⟨xn,xr⟩:Named)]).map L9)∧(s1 = .nilslc ∨ (a++[(⟨xn,xr⟩:Named)]) ≠ [])∧∀ b,u4 s1 = some b→g1.next < b):=by
   refine ⟨by simp;omega,fun b hb hbq=>?_, ?_, ?_,s5,by simp,.inr ⟨b5,v5,z5,by rw [hs5,hmap], ?_⟩,.inr (by simp),fun b hb=>?_⟩
   ·rw [p4,if_neg (by omega),k2 b (by omega) (fun e=>by have:=hsq b e;omega),p8 (by simp;omega),p4,if_neg (by omega),hfr b (by omega) hbq];exact i2 b hb hbq
   ·rw [p4,if_neg (by omega),k2 q (by omega) hsr,p8 (by simp;omega),p4,if_neg (by omega)];exact w3
   ·rw [p4,if_neg (by omega),k2 _ (by omega) hsz,p8 (by simp;omega),p4,if_neg (by omega),hfr _ (by omega) (Ne.symm hqn)];exact i4
   ·rw [hmap];exact ar5.keep (by simp) (by rw [p4,if_neg (fun e=>hs50 (by rw [hs5,← e];rfl))])
   ·rcases k3 b hb with e | e
    ·exact (hsq b e).2.2.1
    ·omega
  simp only [c8] at e5
  simp only [F6] at f2
  have hn1:¬ g1.next = m1.next:=by omega
  have hn2:¬ m1.next = m3.next:=by omega
  have hn3:¬ g1.next = m3.next:=by omega
  generalize hA2:a++[(⟨xn,xr⟩:Named)] = A2 at *
  have fin':=fin
  simp only [hBD] at fin w23 f5
  first | (refine hide ?_;intro Q3 hQ3) | have hQ3:=True.intro
  repeat' (first
   | (replace hQ3:=hQ3;simp [hd2,e1',f2,a0E,fd,hn1,w23,e5,f5,hdec])
   | (refine hQ3 _ _ _ ?_;clear hQ3 Q3;first | simp only [] | simp [hd1,hd2,e1',f2,a0E,fd,hn1,hn2,hn3,w23,e5,f5,hdec] | skip)
   | (refine D3 (by assumption) ?_;(try clear hQ3);first | simp only [] | simp [hd1,hd2,e1',f2,a0E,fd,hn1,hn2,hn3,w23,e5,f5,hdec] | skip)
   | ((fail_if_success replace hQ3:=hQ3);(first | refine hide ?_ | refine u6 ?_ | refine u7 ?_);intro Q3 hQ3))
  exact ⟨by simp only [hBD];simpa only [c0j] using fin,s9 (by simp)⟩
 ·rintro fr hh ⟨⟨i1,i2,i3,i4,s1,i5,i6,i7,i8⟩,j,rfl⟩
  simp only [List.flatMap_nil,List.nil_append] at i3
  have hln:(J9 ⟨lo,hi⟩++u8 gN::u8 tN::u8 dN::T2).length ≤ 1099511627776:=by
   simp only [List.length_append,List.length_cons] at hroom1 ⊢;omega
  obtain ⟨H1,f1,v1,w1,y1⟩:=U5 p0n (h:=hh) (q:=q) (by omega) i3 hln (t0i o7 _)
  have hl1:(u8 gN::u8 tN::u8 dN::T2).length ≤ 1099511627776:=by rw [List.length_append] at hln;omega
  obtain ⟨H2,f2,v2,w2,y2⟩:=U5 d0R (h:=H1.set g1.next (BD s1 lo hi)) (q:=q) (by simp;omega) (by rw [p4,if_neg (by omega)];exact w1) hl1 (Y9 _ _)
  rw [c0f (by omega)] at f2
  simp only [c0j] at v2 y2
  obtain ⟨H3,f3,v3,w3,y3⟩:=U5 d0R (h:=H2) (q:=q) (by omega) w2 (by simp only [List.length_cons] at hl1 ⊢;omega) (Y9 _ _)
  rw [c0f (by omega)] at f3
  obtain ⟨H4,f4,v4,w4,y4⟩:=U5 d0R (h:=H3) (q:=q) (by omega) w3 (by simp only [List.length_cons] at hl1 ⊢;omega) (Y9 _ _)
  rw [c0f (by omega)] at f4
  have hT2l:T2.length ≤ 1099511627776:=by simp only [List.length_cons] at hl1;omega
  obtain ⟨C4,hC4⟩:∃ C:List AS,C = [ii cN,s1,.str lo,.str hi,ii gN,ii 0,ii 0,ii tN,ii dN,.str [],.nilslc]:=⟨_,rfl⟩
  have h32g:u32 gen < 256 ^ 4:=by unfold u32;omega
  have h32o:u32 old < 256 ^ 4:=by unfold u32;omega
  have hug:=r0A (s:=gen) (by omega)
  have huo:=r0A (s:=old) (by omega)
  obtain ⟨H5,f5,v5,w5,y5⟩:=U5 w0t (h:=H4.set g1.next ⟨0,[11],true,C4⟩) (q:=q) (by simp;omega) (by have:=w4;rw [← hT2] at this;rw [p4,if_neg (by omega)];exact this) (by have:=hT2l;rw [← hT2] at this;exact this) (h0z h32g _)
  simp only [c0j] at v5 y5
  have hl5:(O3 old++(D5 at_++T1)).length ≤ 1099511627776:=by rw [← hT2,List.length_append] at hT2l;omega
  obtain ⟨H6,f6,v6,w6,y6⟩:=U5 w0t (h:=H5) (q:=q) (by omega) w5 hl5 (h0z h32o _)
  obtain ⟨C6,hC6⟩:∃ C:List AS,C = [ii cN,s1,.str lo,.str hi,ii gN,ii gen,ii old,ii tN,ii dN,.str [],.nilslc]:=⟨_,rfl⟩
  have hl6:(D5 at_++T1).length ≤ 1099511627776:=by rw [List.length_append] at hl5;omega
  obtain ⟨H7,f7,v7,w7,y7⟩:=U5 (i0B 16 (by omega)) (h:=H6.set g1.next ⟨0,[11],true,C6⟩) (q:=q) (by simp;omega) (by rw [p4,if_neg (by omega)];exact w6) hl6 (a0K o8 (by omega) _)
  simp only [c0j] at v7 y7
  obtain ⟨C7,hC7⟩:∃ C:List AS,C = [ii cN,s1,.str lo,.str hi,ii gN,ii gen,ii old,ii tN,ii dN,.str at_,.nilslc]:=⟨_,rfl⟩
  have hT1l:T1.length ≤ 1099511627776:=by rw [List.length_append] at hl6;omega
  have o9':(ls state).length ≤ 1048576:=o9
  obtain ⟨H8,f8,v8,w8,y8⟩:=U5 (i0B 1048576 (by omega)) (h:=H7.set g1.next ⟨0,[11],true,C7⟩) (q:=q) (by simp;omega) (by rw [p4,if_neg (by omega),hT1];exact w7) (by rw [hT1];exact hT1l) (a0K (x:=ls state) o9' (by omega) rest)
  simp only [c0j] at v8 y8
  obtain ⟨C8,hC8⟩:∃ C:List AS,C = [ii cN,s1,.str lo,.str hi,ii gN,ii gen,ii old,ii tN,ii dN,.str at_,bs (some (ls state))]:=⟨_,rfl⟩
  have kp:∀ b,b < hh.next→b ≠ q→b ≠ g1.next→(H8.set g1.next ⟨0,[11],true,C8⟩).f b = hh.f b:=fun b hb hbq hbd=>by
   rw [p4,if_neg hbd,y8 b (by omega) hbq,p4,if_neg hbd,y7 b (by omega) hbq,p4,if_neg hbd,y6 b (by omega) hbq,y5 b (by omega) hbq,p4,if_neg hbd,y4 b (by omega) hbq,y3 b (by omega) hbq,y2 b (by omega) hbq,p4,if_neg hbd,y1 b hb hbq]
  have hso:∀ b,u4 s1 = some b→b < hh.next∧b ≠ q∧b ≠ g1.next:=fun b hb=>by have:=i8 b hb;have:=i6.lt hb;omega
  have i6':Sl (H8.set g1.next ⟨0,[11],true,C8⟩) 2 c8 s1 (L.map L9):=i6.keep (by simp;omega) fun b hb=>by
   obtain ⟨q1,q2,q3⟩:=hso b hb
   exact kp b q1 q2 q3
  have hNe:s1 = .nilslc ∨ L.map L9 ≠ []:=by
   rcases i7 with e | e
   ·exact .inl e
   ·right;simpa using e
  have hR:=o0E i6' hNe cN lo hi gN gen old tN dN at_ (some (ls state)) hN (fun x hx=>by
   obtain ⟨y,hy,rfl⟩:=List.mem_map.1 hx
   have:=(hrd y hy).1.n
   simp [L9,c0A];omega)
  have D1:H1.f g1.next = some (BD s1 [] []):=by rw [y1 _ i1 (by omega)];exact i5
  have D4:H4.f g1.next = some (BD s1 lo hi):=by rw [y4 _ (by omega) (by omega),y3 _ (by omega) (by omega),y2 _ (by omega) (by omega)];simp
  have D6:H6.f g1.next = some ⟨0,[11],true,C4⟩:=by rw [y6 _ (by omega) (by omega),y5 _ (by omega) (by omega)];simp
  have D7:H7.f g1.next = some ⟨0,[11],true,C6⟩:=by rw [y7 _ (by omega) (by omega)];simp
  have D8:H8.f g1.next = some ⟨0,[11],true,C7⟩:=by rw [y8 _ (by omega) (by omega)];simp
  have Z8:H8.f h.next = some P7:=by
   have:=kp h.next (by omega) (Ne.symm hqn) (by omega)
   rw [p4,if_neg (by omega)] at this
   rw [this];exact i4
  have c1:∀ n:Nat,n < 256→IntKind.i64.wrap (n:Int) = n:=fun n hn=>wrap_i64 (by omega) (by omega)
  have cg:=c1 gN (by omega)
  have ct:=c1 tN (by omega)
  have cd:=c1 dN (by omega)
  have cge:IntKind.i64.wrap gen = gen:=wrap_i64 (by omega) (by omega)
  have col:IntKind.i64.wrap old = old:=wrap_i64 (by omega) (by omega)
  have f7':W K 164 [.one (.ptr q 0 0),.one (.int .i64 16)] (H6.set g1.next ⟨0,[11],true,C6⟩) = some (.ret (.one (bs (some at_))) H7):=f7
  have f8':W K 164 [.one (.ptr q 0 0),.one (.int .i64 1048576)] (H7.set g1.next ⟨0,[11],true,C7⟩) = some (.ret (.one (bs (some (ls state)))) H8):=f8
  simp only [hBD] at f2 D1 D4
  simp only [I9] at f1
  simp only [hug] at f5
  simp only [huo] at f6
  rw [hC4] at f5 D6
  rw [hC6] at f7' D7
  rw [hC7] at f8' D8
  rw [hC8] at hR
  have n1:¬ h.next = g1.next:=by omega
  have n2:¬ g1.next = h.next:=by omega
  first | (refine hide ?_;intro Q4 hQ4) | have hQ4:=True.intro
  repeat' (first
   | (replace hQ4:=hQ4;simp [f1,D1,f2,D0Z,cg,f3,f4,ct,cd,D4,f5,D0p,cge,col,f6,D6,f7',a0E,D7,f8',D8,hR,Z8,n1])
   | (refine hQ4 _ _ _ ?_;clear hQ4 Q4;first | simp only [] | simp [f1,D1,f2,D0Z,cg,f3,f4,ct,cd,D4,f5,D0p,hug,huo,cge,col,f6,D6,f7',a0E,D7,f8',D8,hR,Z8,n1,n2] | skip)
   | (refine D3 (by assumption) ?_;(try clear hQ4);first | simp only [] | simp [f1] | skip)
   | ((fail_if_success replace hQ4:=hQ4);(first | refine hide ?_ | refine u6 ?_ | refine u7 ?_);intro Q4 hQ4))
  rw [hP]
  refine ⟨_,s1,rfl,i6'.keep (by simp) fun b hb=>?_,hNe,fun b hb=>by have:=i8 b hb;omega, ?_,by simp;omega,fun b hb hbq=>?_⟩
  ·obtain ⟨q1,q2,q3⟩:=hso b hb
   have:b ≠ h.next:=by have:=i8 b hb;omega
   rw [p4,if_neg this,hC8]
  ·rw [p4,if_neg hqn,p4,if_neg (by omega)];exact w8
  ·have:=kp b (by omega) hbq (by omega)
   rw [hC8] at this
   rw [p4,if_neg (by omega),this];exact i2 b hb hbq
abbrev rdH (h:H) (o:Option BL):H:=((h.new ⟨0,[1],true,[.bool false]⟩).new (rdB o)).new ⟨0,[1],true,[.ptr (h.next + 1) 0 0]⟩
theorem y0U {f:Nat} {g:k0U} (hq:K.prim f = some g) (args:List AV) (h:H):W K f args h = g (W K) args h:=by
 rw [s0U hp];unfold callF;rw [hq]
theorem w0o {h h':H} {o l:Option BL} {g:Nat} {caps:List AS} {v:AV} (e:W K g (.one (.ptr (h.next + 1) 0 0)::caps.map AV.one) (rdH h o) = some (.ret v h'))
  (k0:h'.f h.next = some ⟨0,[1],true,[.bool false]⟩) (k1:h'.f (h.next + 1) = some (rdB l)) (k2:h'.f (h.next + 2) = some ⟨0,[1],true,[.ptr (h.next + 1) 0 0]⟩) :
  W K 52 [.one (bs o),.one (.fn g [] caps)] h = some (.ret (.one (.bool (decide ((ls l).length = 0)))) (h'.set h.next ⟨0,[1],true,[.bool (decide ((ls l).length = 0))]⟩)):=by
 rw [y0U rfl]
 have hP:(i0i S).P = Tryz.prog:=rfl
 simp only [rdH] at e
 have hs:=m0J ((h.new ⟨0,[1],true,[.bool false]⟩).new ⟨0,[1],true,[bs o]⟩) ⟨0,[1],true,[.nilptr]⟩ ⟨0,[1],true,[.ptr (h.next + 1) 0 0]⟩
 simp only [A0] at hs
 have k2':h'.f (h.next + 1 + 1) = _:=k2
 simp [bin,c0D,g0k,a0x,hP,d0O,rgn,op1,P4,c0p,T8,RdFn.of,b0M,a0p,h0o,Tryz.f52,M8,b0W,L6,hs,e,k0,k1,k2']
 have hb:(((ls l).length:Int) == 0) = decide (ls l = []):=by cases ls l <;> simp <;> omega
 simp [hb]
theorem t0u {h:H} {s:AS} {l:List Named} (a:Sl h 2 c8 s l) (hs:s = .nilslc ∨ l ≠ []):p6 false h 64 s = some (sl 2 c8 (nz l)):=by
 rcases a with ⟨rfl,rfl⟩ | ⟨b,v,z,rfl,ar⟩
 ·simp [p6,c5,Wm.sl_none]
 have hl:l ≠ []:=by
  rcases hs with e | e
  ·cases e
  ·exact e
 have hr:=O7 (l:=[]) A7 ar
 simp only [List.length_nil,Nat.zero_mul] at hr
 rw [f0l hl]
 simp only [p6,hr,n0Q (a0F (st:=false) l fun x _=>a0J x),oqE,oqS,sl]
abbrev hA:H:=(H.empty.new P7).new P7
theorem t0G {A:Answer} (a:AnsRd A) (hl:(b0j A).length ≤ 1099511627776) (h:H):W K 74 [.one (bs (some (b0j A)))] h = some (.ret (.tup [(true,l5 (l0g A)),(false,[ii 0])]) h):=by
 obtain ⟨_,e,h',s,rfl,w1,w2,w3,w4,w5,w6⟩:=t0l (h:=rdH hA (some (b0j A))) (q:=3) (rest:=[]) a (by simp) (by rw [List.append_nil];simp [K7]) (by rw [List.append_nil];exact hl)
 obtain ⟨code,rows,⟨lo,hi⟩,group,gen,old,to,do_,at_,state⟩:=A
 simp only at e w1 w2
 obtain ⟨B,hB⟩:∃ B,b0j ⟨code,rows,⟨lo,hi⟩,group,gen,old,to,do_,at_,state⟩ = B:=⟨_,rfl⟩
 rw [hB] at e w3 w5 w6 ⊢
 have f0:h'.f 0 = some P7:=by rw [w6 0 (by simp) (by omega)];simp [K7]
 have f1:h'.f 1 = some P7:=by rw [w6 1 (by simp) (by omega)];simp [K7]
 have f2:h'.f 2 = some ⟨0,[1],true,[.bool false]⟩:=by rw [w6 2 (by simp) (by omega)];simp [K7]
 have f4:h'.f 4 = some ⟨0,[1],true,[.ptr 3 0 0]⟩:=by rw [w6 4 (by simp) (by omega)];simp [K7]
 obtain ⟨CA,hCA⟩:∃ C:List AS,[ii code,s,.str lo,.str hi,ii group,ii gen,ii old,ii to,ii do_,.str at_,bs (some (ls state))] = C:=⟨_,rfl⟩
 have hlA:CA.length = 11:=by rw [← hCA];rfl
 have hsA:sub CA 0 11 = some CA:=J2 hlA
 rw [hCA] at e
 have hc:W K 117 [.one (.ptr 3 0 0),.one (.ptr 1 0 0)] (rdH hA (some B)) = some (.ret (.tup []) (h'.set 1 ⟨0,[11],true,CA⟩)):=by
  generalize rdH hA (some B) = H0 at *
  refine A5 hp rfl rfl rfl Tryz.func117 rfl (by simp [Tryz.f117]) ?_
  simp only [Tryz.f117]
  refine hide ?_;intro Q1 hQ1
  repeat' (first
   | (replace hQ1:=hQ1;simp [-lay,K6,e,f1,hlA])
   | refine hQ1 _ _ _ ?_)
 have hr:=w0o (h:=hA) (o:=some B) (g:=117) (caps:=[.ptr 1 0 0]) hc (l:=some []) (by simp [f2]) (by simpa using w4) (by simpa using f4)
 simp only [I6,List.length_nil,decide_true,A0,g0F,Nat.zero_add] at hr
 have n5:5 ≤ h'.next:=by simpa using w5
 have hfz:CA.mapM (p6 false (((h'.set 1 ⟨0,[11],true,CA⟩).set 2 ⟨0,[1],true,[.bool true]⟩).set 0 ⟨0,[11],true,CA⟩) 64) = some (l5 (l0g ⟨code,rows,⟨lo,hi⟩,group,gen,old,to,do_,at_,state⟩)):=by
  have w1':Sl (((h'.set 1 ⟨0,[11],true,CA⟩).set 2 ⟨0,[1],true,[.bool true]⟩).set 0 ⟨0,[11],true,CA⟩) 2 c8 s ((ls rows).map L9):=w1.keep (by simp) fun b hb=>by
   have:=w3 b hb
   simp only [A0,g0F] at this
   rw [p4,if_neg (by omega),p4,if_neg (by omega),p4,if_neg (by omega)]
  have hfs:=t0u w1' w2
  generalize (((h'.set 1 ⟨0,[11],true,CA⟩).set 2 ⟨0,[1],true,[.bool true]⟩).set 0 ⟨0,[11],true,CA⟩) = HF at *
  rw [← hCA]
  simp only [List.mapM_cons,List.mapM_nil,hfs,oqE,oqS,oqP,l5,l0g,O9]
  simp [p6,c5,g0w]
 have hown:A8 S.own 74 = false:=by kernel_rfl
 refine p5 hp (by simp [p7,-lay]) (c6 rfl rfl (by kernel_rfl) Tryz.func74 rfl (by simp [Tryz.f74]) ?_)
 simp only [Tryz.f74]
 refine hide ?_;intro Q2 hQ2
 repeat' (first
  | (replace hQ2:=hQ2;simp [-lay,K6,hr,f0,hlA,hsA,hfz,t7,p9,p6,J3,c5,p0,hown])
  | refine hQ2 _ _ _ ?_)
theorem t0e {l:List Named} (ok:TblOk l):(l0P l).length ≤ 14000:=by
 have:=i0M (f:=I8) (n:=421) (l:=l) fun x hx=>i0Y (ok.nm x hx)
 have:=ok.len
 simp only [l0P,O3,List.length_append,d0];omega
theorem s0X {l:List Tld} {m:Nat} (ok:CchOk l) (hm:∀ x ∈ l,(ls x.b).length ≤ m):(l0p l).length ≤ 4 + (9 + m) * l.length:=by
 have:=i0M (f:=c0N) (n:=9 + m) (l:=l) fun x hx=>by
  have:=hm x hx
  simp only [c0N,O3,D5,List.length_cons,List.length_append,d0];omega
 simp only [l0p,O3,List.length_append,d0];omega
theorem t0v {sp:Span} {gen:Int} {l:List Named} {c:List Tld} (os:J5 sp = true) (ok:TblOk l) (okc:CchOk c) {m:Nat} (hm:∀ x ∈ c,(ls x.b).length ≤ m):(b0J sp gen l c).length ≤ 14050 + (9 + m) * c.length:=by
 have h1:=t0e ok
 have h2:=s0X okc hm
 simp only [J5,Bool.and_eq_true,decide_eq_true_eq] at os
 simp only [b0J,J9,D5,O3,List.length_append,d0];omega
theorem o0d {sp:Span} {gen:Int} {l:List Named} {c:List Tld} (os:J5 sp = true) (ok:TblOk l) (okc:CchOk c):(b0J sp gen l c).length ≤ 1099511627776:=by
 have h1:=t0v (gen:=gen) os ok okc (m:=1048576) fun x hx=>(b0u (okc.ok x hx)).2.2.2.2
 have h2:=okc.len
 have:(9 + 1048576) * c.length ≤ (9 + 1048576) * 256:=Nat.mul_le_mul_left _ h2
 omega
def stA (b:BL):Answer:=⟨0,none,⟨[],[]⟩,0,0,0,0,0,[],some b⟩
theorem v0q {h:H} {s:Nat} {sp:AS} {l1 l2:List Pt} {p:Pt} {last code:Int} (B8:Int) (F8:Int) (I7:BL) (K5:BL) (v9:Bool) (u5:Bool) (y0:BL) (s8:Int) (y9:Option BL) (z7:Nat) (M2:Option (List Change)) (F7:Int) (A1:BL) (B5:BL) (J1:Int) (N5:BL) (b0a:Int) (a0Z:Int) (L5:Option BL) (w:StAt h s sp (l1++p::l2) last code) (hn:(l1++p::l2).length < 1000) (hi:idx (fun q=>d0o ⟨A1,B5⟩ J1 q.t) (l1++p::l2) = l1.length)
  (os:J5 p.t.span = true) (ok:TblOk p.t.rows) (okc:CchOk p.t.cache) :
  ∃ h',W K 40 [.one (.ptr s 0 0),.agg [ii B8,ii F8,.str I7,.str K5,.bool v9,.bool u5,.str y0,ii s8,bs y9,.flt z7,sl 6 l6 M2,ii F7,.str A1,.str B5,ii J1,.str N5,ii b0a,ii a0Z,bs L5]] h = some (.ret (.agg (l5 (stA (b0J p.t.span p.t.gen p.t.rows p.t.cache)))) h') ∧
   StAt h' s sp (l1++⟨p.d,{ p.t with fr:=true },p.fp⟩::l2) last code∧Fp h h' (fpS s sp (l1++p::l2)) (fpS s sp (l1++⟨p.d,{ p.t with fr:=true },p.fp⟩::l2)):=by
 obtain ⟨a1,a2,a3⟩:=w.at
 obtain ⟨pr,pc,qr,qc,t1,t2,t3,t4,t5⟩:=a1
 have hnd:=a2
 rw [t5] at hnd
 simp only [List.nodup_cons,List.mem_cons,List.mem_append,Option.mem_toList,not_or] at hnd
 obtain ⟨⟨x1,x2,x3,x4⟩,⟨x5,x6,x7⟩,⟨x8,x9⟩,x10⟩:=hnd
 obtain ⟨B0,hB0⟩:∃ B:Blk,B = ⟨0,[19],true,[ii B8,ii F8,.str I7,.str K5,.bool v9,.bool u5,.str y0,ii s8,bs y9,.flt z7,sl 6 l6 M2,ii F7,.str A1,.str B5,ii J1,.str N5,ii b0a,ii a0Z,bs L5]⟩:=⟨_,rfl⟩
 have w2:=(w.new B0).new P7
 have e1:=v0h w2 hn ⟨A1,B5⟩ J1
 rw [hi] at e1
 simp only at e1
 obtain ⟨h3,hh3⟩:∃ h3,((h.new B0).new P7).set p.d (a0u p.t.span p.t.gen true (.ptr pr 0 0) (.ptr pc 0 0)) = h3:=⟨_,rfl⟩
 have n3:h3.next = h.next + 1 + 1:=by rw [← hh3];simp
 have k3:∀ b,b < h.next→b ≠ p.d→h3.f b = h.f b:=fun b hb hbd=>by rw [← hh3,p4,if_neg hbd,p8 (by simp;omega),p8 (by omega)]
 have d3:h3.f p.d = some (a0u p.t.span p.t.gen true (.ptr pr 0 0) (.ptr pc 0 0)):=by rw [← hh3];simp
 have t3':Bx (h3.new ⟨0,[1],true,[.nilslc]⟩) pr 2 c8 p.t.rows qr:=(t3.keep (h':=h3) (by omega) (k3 _ t3.1 (Ne.symm x1)) fun b hb=>k3 b (t3.lt hb) (fun e=>x3 (by rw [← e];exact hb))).new _
 have t4':Bx (h3.new ⟨0,[1],true,[.nilslc]⟩) pc 3 J7 p.t.cache qc:=(t4.keep (h':=h3) (by omega) (k3 _ t4.1 (Ne.symm x2)) fun b hb=>k3 b (t4.lt hb) (fun e=>x4 (by rw [← e];exact hb))).new _
 have hw0:Wr (h3.new ⟨0,[1],true,[.nilslc]⟩) h3.next none []:=⟨by simp,.nilslc,rfl,by simp,by simp,rfl⟩
 have e2:=q0M h3
 have d3n:(h3.new ⟨0,[1],true,[.nilslc]⟩).f p.d = some (a0u p.t.span p.t.gen true (.ptr pr 0 0) (.ptr pc 0 0)):=by rw [p8 (by omega)];exact d3
 obtain ⟨h5,q5,e5,w5,o5⟩:=A0U hw0 os d3n (by simp;omega) (by omega) (by simp) t3' t4' ok okc
  ⟨by have:=t3.1;omega,by simp,fun e=>by have:=t3.lt e;omega,by simp⟩ ⟨by have:=t4.1;omega,by simp,fun e=>by have:=t4.lt e;omega,by simp⟩ (by simpa using o0d os ok okc)
 rw [List.nil_append] at w5
 obtain ⟨o,ho,e6⟩:=v0A w5 (o0d os ok okc)
 have hne:b0J p.t.span p.t.gen p.t.rows p.t.cache ≠ []:=fun e=>by
  have:=congrArg List.length e
  simp [b0J,J9,D5,d0] at this
 obtain rfl:=A0b ho hne
 have n5:=o5.next
 simp only [A0] at n5
 have k5:∀ b,b < h3.next→h5.f b = h3.f b:=fun b hb=>by rw [o5.keep b (by simp;omega) (by omega) (by simp),p8 (by omega)]
 obtain ⟨TB,hTB⟩:∃ TB,b0J p.t.span p.t.gen p.t.rows p.t.cache = TB:=⟨_,rfl⟩
 rw [hTB] at e6 ⊢
 have kk:∀ b,b < h.next→b ≠ p.d→(h5.set (h.next + 1) ⟨0,[11],true,l5 (stA TB)⟩).f b = h.f b:=fun b hb hbd=>by rw [p4,if_neg (by omega),k5 b (by omega),k3 b hb hbd]
 have hfp:∀ b ∈ p.fp,b < h.next:=fun b hb=>w.fp_lt b (by rw [b0t];simp [hb])
 have tb:TabAt (h5.set (h.next + 1) ⟨0,[11],true,l5 (stA TB)⟩) p.d { p.t with fr:=true } p.fp:=by
  refine ⟨pr,pc,qr,qc,by simp;omega, ?_,t3.keep (by simp;omega) (kk _ t3.1 (Ne.symm x1)) fun b hb=>kk b (t3.lt hb) (fun e=>x3 (by rw [← e];exact hb)),t4.keep (by simp;omega) (kk _ t4.1 (Ne.symm x2)) fun b hb=>kk b (t4.lt hb) (fun e=>x4 (by rw [← e];exact hb)),t5⟩
  rw [p4,if_neg (by omega),k5 _ (by omega)];exact d3
 obtain ⟨st,fp⟩:=w.put (h':=h5.set (h.next + 1) ⟨0,[11],true,l5 (stA TB)⟩) (p':=⟨p.d,{ p.t with fr:=true },p.fp⟩) rfl tb ⟨by simp;omega,fun b hb hbn=>kk b hb (fun e=>hbn (by rw [e,t5];simp)),fun b hb=>.inl hb⟩ a2
 refine ⟨_, ?_,st,fp⟩
 clear st fp tb kk
 obtain ⟨b,v,z,fx,ex,M,hspe,ar,hMb,hbl,hix,hM1,hM2,hset⟩:=t0O w.spine
 have hsn:=w.lt
 have f0:h.f s = some ⟨0,[3],true,[sp,ii last,ii code]⟩:=w.blk
 have hsd:s ≠ p.d:=fun e=>(a3 p.d (by rw [t5];simp)).1 e.symm
 have hbd:b ≠ p.d:=fun e=>(a3 p.d (by rw [t5];simp)).2.1 (by rw [hspe,e];rfl)
 have m0:¬ s = h.next:=by omega
 have m1:¬ s = h.next + 1:=by omega
 have m2:¬ b = h.next:=by omega
 have m3:¬ b = h.next + 1:=by omega
 have m4:¬ p.d = h.next:=by omega
 have m5:¬ p.d = h.next + 1:=by omega
 have m6:¬ s = h3.next:=by omega
 have m7:¬ b = h3.next:=by omega
 have m8:¬ p.d = h3.next:=by omega
 have f3:h3.f s = some ⟨0,[3],true,[sp,ii last,ii code]⟩:=by rw [k3 s hsn hsd];exact f0
 have f3b:h3.f b = some ⟨v,M.length::ex,fx,M⟩:=by rw [k3 b hbl hbd];exact hMb
 have f5:h5.f (h.next + 1) = some P7:=by rw [k5 _ (by omega),← hh3,p4,if_neg (by omega)];simp
 have d3':¬ (l1.length:Int) < 0:=by omega
 have d4':decide ((l1.length:Int) < 0) = false:=decide_eq_false d3'
 generalize l1.length = N at *
 simp only [a0u] at t2 hh3
 rw [hB0] at e1 hh3
 simp only [stA,l5,Wm.sl_none]
 refine A5 hp rfl rfl rfl Tryz.func40 rfl (by simp [Tryz.f40]) ?_
 simp only [Tryz.f40]
 refine hide ?_;intro Q1 hQ1
 repeat' (first
  | (replace hQ1:=hQ1;simp [-lay,O6,O5,V6,e1,f0,m0,m1,d3',hix,hMb,m2,m3,hM1,hM2,t2,m4,m5,hh3,e2,f3,m6,f3b,m7,e5,e6,f5])
  | refine hQ1 _ _ _ ?_)
end Go.Proofs.YtiagcnfmgigllaaGreat
